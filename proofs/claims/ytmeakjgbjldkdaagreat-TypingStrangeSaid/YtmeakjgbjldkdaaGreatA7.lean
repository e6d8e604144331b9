/- A part of what is proved: W7, W8, W9, W10, W11, W12, W13, W14, W15, W16, W17, W18, W19, W20, W21, W22, F0p, H1p, Ty4, Ty5, Ty6, Ty7, W23. No condition. -/
import Derived.Test.YtmeakjgbjldkdaaGreatA6
set_option maxRecDepth 100000
set_option maxHeartbeats 16000000
noncomputable section
namespace Go.Proofs.YtmeakjgbjldkdaaGreat.Ai
open Go
variable {pr:Jz} {F:Nat->Option IFn}
theorem TbU.alike(L:LibW pr F){H:List Blk}{rw:List Nat}{rb nt:Nat}{cs:List Cls}{U:List (List Nat)}(T:TbU H nt cs U){r:Room}(hrb:H[rb]? = some (.cells (JC nt r))){a b:Ty}(ha:Zm a)(hb:Zm b) :
  ∃ rw',Rx rw rw'/\Det pr F 242 [.ptr rb 0,.agg (Jl a),.agg (Jl b)] ⟨H,rw⟩ (.ret (.bool (JcU cs U a b))) ⟨H,rw'⟩:=by
 obtain⟨mb,z,zb,tg,tb,o1,o2,o3,sl,h1,h2⟩:=T;exact JsR L h1 hrb ha hb
def op1(op:Jk):Prop:=op=[110,101,103]\/op=[43]\/op=[45]\/op=[42]\/op=[47]\/op=[37]
def op2(op:Jk):Prop:=op=[110,111,116]\/op=[38,38]\/op=[124,124]\/op=[61,62]
def op3(op:Jk):Prop:=op=[61,61]\/op=[33,61]
theorem JvU(L:LibY pr F){H:List Blk}{rw:List Nat}{rb nt:Nat}{cs:List Cls}{U:List (List Nat)}(T:TbU H nt cs U){r:Room}(hrb:H[rb]? = some (.cells (JC nt r)))(op nm:Jk)(l:List Xp)(ty:List Ty)(a:Int)
  (hl:∀ x∈l,Zm (Q4 x)) (hll:l.length<=64800000) (h2:op3 op->∃ x y m,l=x::y::m) :
  ∃ rw',Rx rw rw'/\Det pr F 223 [.ptr rb 0,.agg (Jb (.mk op nm l ty a))] ⟨H,rw⟩ (KR ExA (Jaa cs U op nm l ty a)) ⟨H,rw'⟩:=by
 have hm:=L.hm;suffices h:Wp pr F 223 [.ptr rb 0,.agg (Jb (.mk op nm l ty a))] ⟨H,rw⟩ λr' S'=>∃ rw',Rx rw rw'/\r'=KR ExA (Jaa cs U op nm l ty a)/\S'=⟨H,rw'⟩ by obtain⟨r',S',hd,rw',h1,rfl,rfl⟩:=h.det hm;exact⟨rw',h1,hd⟩
 have hR:Rx rw rw:=Rx.rfl;have hel:=JV l;have hA:op1 op->Jaa cs U op nm l ty a=if l.all λx=>V6 (Q4 x) == 1 then .ok (.mk op nm l [KL 1] a)else Kz 131 a:=λh=>by rcases h with rfl |rfl |rfl |rfl |rfl |rfl <;> rfl
 have hB:op2 op->Jaa cs U op nm l ty a=if l.all λx=>V6 (Q4 x) == 2 then .ok (.mk op nm l [KL 2] a)else Kz 131 a:=λh=>by rcases h with rfl |rfl |rfl |rfl <;> rfl
 have hC:op3 op->∀ x y m,l=x::y::m->Jaa cs U op nm l ty a=if JcU cs U (Q4 x) (Q4 y)then .ok (.mk op nm l [KL 2] a)else Kz 131 a:=λh x y m h2=>by unfold Jaa;have h':op=[61,61]\/op=[33,61]:=h;simp only[h',if_true,h2]
 have hD:¬op1 op->¬op2 op->¬op3 op->Jaa cs U op nm l ty a=if l.all λx=>V6 (Q4 x) == 1 then .ok (.mk op nm l [KL 2] a)else Kz 131 a:=λh1 h2 h3=>by unfold Jaa;have h3':¬(op=[61,61]\/op=[33,61]):=h3;simp only[h3',if_false,if_neg (show ¬(op=[110,111,116]\/op=[38,38]\/op=[124,124]\/op=[61,62]) from h2),if_neg (show ¬(op=[110,101,103]\/op=[43]\/op=[45]\/op=[42]\/op=[47]\/op=[37]) from h1)]
 generalize Jaa cs U op nm l ty a=res at *;have hs1:=V7 L.toLibW 1;have hs2:=V7 L.toLibW 2;refine Jt hm L.f223.1 L.f223.2 rfl ?_;refine Kt hm ?_;unfold Jvz;show At pr F H.length (fin _ H.length _) _ _ _ _;refine Ku hm ?_;intro H1 hH1 hlen hlt;have hFb:=J1 hH1 hrb;have tail:∀(i o:Int),(o=1\/o=2)->(res=if l.all λx=>V6 (Q4 x) == i then .ok (.mk op nm l [KL o] a)else Kz 131 a) ->
   At pr F H.length (fin [.cell 4 (some 5)] H.length λr' S'=>∃ rw',Rx rw rw'/\r'=KR ExA res/\S'=⟨H,rw'⟩)
    (.loop [3,4,5,6,46,47,48] (.seq Jrn (.seq (.cond (.tmp 49) (.skip) (.exit 1)) (.seq (.block 2 (.seq Jro (.seq Jrp (.cond (.tmp 56) Jrq (.skip))))) Jrr)))) [.blk 1,.code (.seq Jrs .ret)]
    [(3,.ptr (H1.length+0) 0),(4,.ptr H.length 0),(5,.int .i64 i),(6,.int .i64 o),(46,Kp 5 (Ja l)),(47,.int .i64 ((Ja l).length:Int)),(48,.int .i64 0)]
    ⟨hp H1 H.length (.cells (Jb ex0)) [.cells (Jb (.mk op nm l ty a))],rw⟩:=by
  intro i o ho hres;have hst:=V7 L.toLibW o;have htd:TxOk pr F 182 [.agg (Jb (.mk op nm l ty a)),.agg (Jl (KL o))] (.agg (Jb (.mk op nm l [KL o] a))):=YK L.toLibW _ _;clear hA hB hC hD;refine JB hm (λmm e S'=>∃(q:Nat) (J:List Blk) (rw3:List Nat),S'=⟨hp H1 H.length (.cells (Jb ex0)) (.cells (Jb (.mk op nm l ty a))::J),rw3⟩/\q<=l.length/\(l.all λx=>V6 (Q4 x) == i)=((l.drop q).all λx=>V6 (Q4 x) == i)/\Rx rw rw3/\mm=l.length-q /\
   e=[(3,.ptr (H1.length+0) 0),(4,.ptr H.length 0),(5,.int .i64 i),(6,.int .i64 o),(46,Kp 5 (Ja l)),(47,.int .i64 ((Ja l).length:Int)),(48,.int .i64 q)]) ?_ (m:=l.length) ⟨0,_,rw,rfl,O,rfl,hR,rfl,rfl⟩
  clear hR;rintro mm e S' ⟨q,J,rw3,rfl,hq0,hod,hR,rfl,rfl⟩;by_cases hq:q<l.length
  ·obtain⟨x,hx⟩:∃ x,l[q]? = some x:=⟨_,Ab hq⟩
   have hxr:(Ja l)[q]? = some (Jb x):=Fq
   have hl5:Kp 5 (Ja l)=.list 5 .dead (Ja l):=Kf (i:=q) O;have hof:=Zp L.toLibW x;rw[Jod hx]at hod;rw[hl5];generalize Q4 x=t at *;obtain⟨k1,n1,u1,e1,p1,a1⟩:=t;replace hod:(l.all λx=>V6 (Q4 x) == i)=((k1 == i) && ((l.drop (q+1)).all λx=>V6 (Q4 x) == i)):=hod;by_cases hk:k1=i
   ·subst hk;simp only[beq_self_eq_true,BW]at hod;refine' JM;exact⟨l.length-(q+1),O,q+1,_,rwt,rfl,O,hod,hR,rfl,rfl⟩
   ·rw[beq_eq_false_iff_ne.2 hk,CZ]at hod;rw[if_neg (by rw[hod];exact BO)]at hres;refine' JM;refine KV (Kr L.toLibW _ _ _ _) rfl rfl rfl ?_;subst hH1;rw[hres];exact KM (JS JZ ⟨_,hR,rfl,rfl⟩)
  ·rw[AU O]at hod;have hod2:(l.all λx=>V6 (Q4 x) == i)=true:=hod;rw[if_pos hod2]at hres;refine' JM;rw[hres];exact Ju hH1 rfl (JG (.mk op nm l [KL o] a)) ⟨_,hR,rfl,rfl⟩
 by_cases h3:op3 op
 ·obtain⟨x,y,m,rfl⟩:=h2 h3;have hC2:=hC h3 x y m rfl;have htr:(Ja (x::y::m))[0]? = some (Jb x):=rfl;have htr1:(Ja (x::y::m))[1]? = some (Jb y):=rfl;have hln:(Ja (x::y::m)).length=(Ja m).length+2:=rfl;have hof:=Zp L.toLibW x;have hof2:=Zp L.toLibW y;have hX:=hl x Ag;have hY:=hl y Ag;clear hA hB hC hD tail;rcases h3 with rfl |rfl;all_goals
   refine' JM;refine Kj (q:=H.length) rfl rfl (Kh hlt) ?_;refine' JM;obtain⟨rw2,hR2,hd⟩:=TbU.alike L.toLibW (T.keep (JF hH1 _ _)) (hFb _ _) hX hY (rw:=rwt);refine Je rfl rfl rfl ?_;refine Ks hd ?_;replace hR:=hR.trans hR2;clear hd;refine JQ ?_;cases ha:JcU cs U (Q4 x) (Q4 y)with
   | true=>
    rw[ha,if_pos rfl]at hC2;first
     |have htd:TxOk pr F 182 [.agg (Jb (.mk [61,61] nm (x::y::m) ty a)),.agg (Jl (KL 2))] (.agg (Jb (.mk [61,61] nm (x::y::m) [KL 2] a))):=YK L.toLibW _ _
      have hzz:res=.ok (.mk [61,61] nm (x::y::m) [KL 2] a):=hC2;refine' JM;rw[hzz];exact Ju hH1 rfl (JG (.mk [61,61] nm (x::y::m) [KL 2] a)) ⟨_,hR,rfl,rfl⟩
     |have htd:TxOk pr F 182 [.agg (Jb (.mk [33,61] nm (x::y::m) ty a)),.agg (Jl (KL 2))] (.agg (Jb (.mk [33,61] nm (x::y::m) [KL 2] a))):=YK L.toLibW _ _
      refine' JM;rw[hC2];exact Ju hH1 rfl (JG (.mk [33,61] nm (x::y::m) [KL 2] a)) ⟨_,hR,rfl,rfl⟩
   | false=>rw[ha,if_neg BO]at hC2;refine' JM;refine KV (Kr L.toLibW _ _ _ _) rfl rfl rfl ?_;subst hH1;rw[hC2];exact JS JZ ⟨_,hR,rfl,rfl⟩
 ·refine' JM;refine Kj (q:=H.length) rfl rfl (Kh hlt) ?_;refine' JM;all_goals first
   | exact absurd (Or.inl Aa) h3
   | exact absurd (Or.inr Aa) h3
   | exact tail 1 1 (.inl rfl) (hA (by unfold op1;simp[*]))
   | exact tail 2 2 (.inr rfl) (hB (by unfold op2;simp[*]))
   | exact tail 1 2 (.inr rfl) (hD (by unfold op1;simp[*]) (by unfold op2;simp[*]) h3)
theorem Jg9{tag:Tag}{r:List AV}{rows:List (List AV)}:Jan 5 (.list 5 tag (r::rows)) (some 1) none=some (.list 5 tag rows):=EE
theorem Jok{α:Type}{f:α->Bool}{l:List α}{q:Nat}{x:α}(h:l[q]? = some x):(l.take (q+1)).filter f=(l.take q).filter f++(if f x then [x] else []):=by obtain⟨hl,he⟩:=Ac.1 h;rw[CD hl,he,CX];by_cases hf:f x <;> simp[hf]
theorem JsT{α:Type}{f:α->Bool}{l:List α}{q:Nat}{x:α}(h:l[q]? = some x):(l.drop q).find? f=if f x then some x else(l.drop (q+1)).find? f:=by obtain⟨hl,he⟩:=Ac.1 h;rw[AY hl,he,List.find?_cons];cases f x <;> simp
theorem TbU.over(L:LibW pr F){H:List Blk}{rw:List Nat}{nt:Nat}{cs:List Cls}{U:List (List Nat)}(T:TbU H nt cs U)(hfw:Few cs)(s nm:Jk) :
  (ovM nm (V5 cs U s)).length<=64*(cs.length+1)/\∃(v:AV) (rw':List Nat),IsL 13 v (Ko (ovM nm (V5 cs U s)))/\Rx rw rw'/\Det pr F 39 [.ptr nt 0,.str s,.str nm] ⟨H,rw⟩ (.ret v) ⟨H,rw'⟩:=by
 obtain⟨mb,z,zb,tg,tb,o1,o2,o3,sl,h1,h2⟩:=T;exact⟨BX (Jra _ _) (Jf3 hfw h1.ups s),JjX L.toLibN h1 hfw h2 s nm⟩
theorem TbU.best(L:LibW pr F){H:List Blk}{rw:List Nat}{rb nt:Nat}{cs:List Cls}{U:List (List Nat)}(T:TbU H nt cs U){r:Room}(hrb:H[rb]? = some (.cells (JC nt r))){v:AV}{l:List (Jk×Jk×Mth)}(hv:IsL 13 v (Ko l))(m:Jk×Jk×Mth)
  (hl:∀ o∈l,(∀ p∈o.2.2.params,Zm p.type)/\o.2.2.params.length=m.2.2.params.length) (hpm:∀ p∈m.2.2.params,Zm p.type) (hpl:m.2.2.params.length<=64800000) (hll:l.length<=64800000) :
  ∃ rw',Rx rw rw'/\Det pr F 241 [.ptr rb 0,.agg (KK m.1 m.2.1 m.2.2),v] ⟨H,rw⟩ (.ret (.bool (JcT cs U m.2.2 l))) ⟨H,rw'⟩:=by
 obtain⟨mb,z,zb,tg,tb,o1,o2,o3,sl,h1,h2⟩:=T;exact JvP L h1 hrb hv m hl hpm hpl hll
theorem TbU.takes(L:LibW pr F){H:List Blk}{rw:List Nat}{rb nt:Nat}{cs:List Cls}{U:List (List Nat)}(T:TbU H nt cs U){r:Room}(hrb:H[rb]? = some (.cells (JC nt r))){v w:AV}{l:List Xp}{ps:List Par}(hv:IsQ 5 v (Ja l))(hw:IsL 8 w (ps.map Jf))(hl:∀ x∈l,Zm (Q4 x))(hps:∀ p∈ps,Zm p.type)(hll:l.length<=64800000) :
  ∃ rw',Rx rw rw'/\Det pr F 181 [.ptr rb 0,v,w] ⟨H,rw⟩ (.ret (.bool (KS cs U l ps))) ⟨H,rw'⟩:=by
 obtain⟨mb,z,zb,tg,tb,o1,o2,o3,sl,h1,h2⟩:=T;exact JsQ L h1 hrb hv hw hl hps hll
theorem TbU.few{H:List Blk}{nt:Nat}{cs:List Cls}{U:List (List Nat)}(T:TbU H nt cs U):cs.length<=8000:=by obtain⟨mb,z,zb,tg,tb,o1,o2,o3,sl,h1,h2⟩:=T;exact h1.few
theorem JvV(L:LibY pr F){H:List Blk}{rw:List Nat}{rb nt:Nat}{cs:List Cls}{U:List (List Nat)}(C:Cst cs U)(T:TbU H nt cs U){r:Room}(hrb:H[rb]? = some (.cells (JC nt r)))(op nm:Jk)(x:Xp)(l:List Xp)(ty:List Ty)(a:Int)
  (hl:∀ y∈x::l,Zm (Q4 y)) (hll:l.length<=64800000) :
  ∃ rw',Rx rw rw'/\Det pr F 222 [.ptr rb 0,.agg (Jb (.mk op nm (x::l) ty a))] ⟨H,rw⟩ (KR ExA (JdQ cs U op nm (x::l) a)) ⟨H,rw'⟩:=by
 have hm:=L.hm;suffices h:Wp pr F 222 [.ptr rb 0,.agg (Jb (.mk op nm (x::l) ty a))] ⟨H,rw⟩ λr' S'=>∃ rw',Rx rw rw'/\r'=KR ExA (JdQ cs U op nm (x::l) a)/\S'=⟨H,rw'⟩ by obtain⟨r',S',hd,rw',h1,rfl,rfl⟩:=h.det hm;exact⟨rw',h1,hd⟩
 have hR:Rx rw rw:=Rx.rfl;have hel:(Ja (x::l)).length=(Ja l).length+1:=rfl;have hel2:=JV l;have hx0:(Ja (x::l))[0]? = some (Jb x):=rfl;have hof:=Zp L.toLibW x;have hcs:=T.few;have hres:JdQ cs U op nm (x::l) a=(let fit:=(ovM nm (V5 cs U (nmT (Q4 x)))).filter λm=>KS cs U l m.2.2.params
  if fit=[] then Kz 132 a else match fit.find? λm=>JcT cs U m.2.2 fit with
  | some m=>.ok (.mk op m.1 (x::l) [VD m.2.2.result] a)
  | none=>Kz 133 a):=rfl
 generalize JdQ cs U op nm (x::l) a=res at *;generalize Q4 x=t at *;obtain⟨k1,n1,u1,e1,p1,a1⟩:=t;change res=(let fit:=(ovM nm (V5 cs U n1)).filter λm=>KS cs U l m.2.2.params
  if fit=[] then Kz 132 a else match fit.find? λm=>JcT cs U m.2.2 fit with
  | some m=>.ok (.mk op m.1 (x::l) [VD m.2.2.result] a)
  | none=>Kz 133 a)at hres
 refine Jt hm L.f222.1 L.f222.2 rfl ?_;refine Kt hm ?_;unfold Jvy;show At pr F H.length (fin _ H.length _) _ _ _ _;refine Ku hm ?_;intro H1 hH1 hlen hlt;have hFb:=J1 hH1 hrb;refine' JM;refine Kj (q:=H.length) rfl rfl (Kh hlt) ?_;refine' JM;obtain⟨hml,v,rw2,hv,hR2,hd⟩:=TbU.over L.toLibW (T.keep (JF hH1 (.cells (Jb ex0)) [.cells (Jb (.mk op nm (x::l) ty a))])) C.few n1 nm (rw:=rwt);refine Je rfl rfl rfl ?_;refine Ks hd ?_;replace hR:=hR.trans hR2;clear hd hR2 hRt;refine JQ ?_;obtain⟨zv,tv,rfl,hzv,-⟩:=hv.ex;have hmo:∀ o∈ovM nm (V5 cs U n1),MOk o.2.2:=λo ho=>Jl3 C.ok (Jee (Ct.1 ho).1);generalize ovM nm (V5 cs U n1)=os at *;have hos:=Vc os;refine' JM;refine JB hm (λmm e S'=>∃(q:Nat) (J:List Blk) (lv:AV) (rw3:List Nat),S'=⟨hp H1 H.length (.cells (Jb ex0)) (.cells (Jb (.mk op nm (x::l) ty a))::J),rw3⟩/\q<=os.length/\Lst rw2 13 lv (Ko ((os.take q).filter λm=>KS cs U l m.2.2.params)) rw3/\Rx rw2 rw3/\mm=os.length-q /\
   e=[(0,.ptr rb 0),(3,.ptr (H1.length+0) 0),(4,.ptr H.length 0),(5,lv),(22,.list zv tv (Ko os)),(23,.int .i64 ((Ko os).length:Int)),(24,.int .i64 q)]) ?_ (m:=os.length) ⟨0,_,_,rw2,rfl,O,Lst.nil,Rx.rfl,rfl,rfl⟩
 rintro mm e S' ⟨q,J,lv,rw3,rfl,hq0,hli,hR3,rfl,rfl⟩;have hfl:((os.take q).filter λm=>KS cs U l m.2.2.params).length<=q:=BX (Cj _ _) EW;have hfm:=Vc ((os.take q).filter λm=>KS cs U l m.2.2.params);by_cases hq:q<os.length
 ·obtain⟨o,ho⟩:∃ x,os[q]? = some x:=⟨_,Ab hq⟩
  have hor:=ZR ho;have hz13:zv=13:=hzv (by intro h;rw[h]at hor;simp at hor);subst hz13;have htk:=Jok (f:=λm=>KS cs U l m.2.2.params) ho;have hok:=hmo o (Aq ho);obtain⟨s1,s2,mn,mp,⟨k2,n2,u2,e2,p2,a2⟩,bd,ab,at1⟩:=o;simp only at hor htk;have hR:Rx rw3 rw3:=Rx.rfl;refine' JM;refine g_q rfl Jg9 ?_;refine' JM;have hv5:IsQ 5 (.list 5 .dead (Ja l)) (Ja l):=⟨5,.dead,rfl,λ_=>rfl⟩
  obtain⟨rw4,hR4,hd⟩:=TbU.takes L.toLibW (T.keep (JF hH1 _ _)) (hFb _ _) hv5 (YM (rows:=mp.map Jf)) (λy hy=>hl y Ei) hok.par O (rw:=rw3);refine Je rfl rfl rfl ?_;refine Ks hd ?_;replace hli:=hli.ext hR4;replace hR3:=hR3.trans hR4;clear hd;refine JQ ?_;cases hf:KS cs U l mp with
  | true=>rw[hf,if_pos rfl]at htk;refine' JM;rw[Jl9];refine Qp ?_;refine Q1 rfl (vs:=[.agg (KK s1 s2 ⟨mn,mp,.mk k2 n2 u2 e2 p2 a2,bd,ab,at1⟩)]) rfl ?_;refine Z2 (Xu _ _ _) ?_;refine' JM;refine JT ?_;refine JW rfl rfl rfl ?_;refine QB (row:=KK s1 s2 ⟨mn,mp,.mk k2 n2 u2 e2 p2 a2,bd,ab,at1⟩) hli hR3 (by rw[hfm];simp only[Ji];omega) (by rw[hfm];simp only[Ji];omega) O ?_;intro l4 rw5 hl4 hR5;refine JQ ?_;refine' JM;refine⟨os.length-(q+1),O,q+1,_,l4,rw5,rfl,O,?_,hR5,rfl,rfl⟩;rw[htk,JbX];exact hl4
  | false=>rw[hf,if_neg BO,Ar]at htk;refine' JM;exact⟨os.length-(q+1),O,q+1,_,lv,rw4,rfl,O,by rw[htk];exact hli,hR3,rfl,rfl⟩
 ·rw[AB O]at hli hfl hfm;have hfo:∀ o∈os.filter λm=>KS cs U l m.2.2.params,MOk o.2.2/\o.2.2.params.length=l.length:=λo ho=>⟨hmo o (Ct.1 ho).1,(Jf8 (Ct.1 ho).2).symm⟩
  generalize (os.filter λm=>KS cs U l m.2.2.params)=fit at *;obtain⟨s4,t4,rfl,hs4,-⟩:=hli.isL.ex;replace hR:=hR.trans hR3;clear hR3 hv hzv hmo;by_cases hfe:fit=[]
  ·subst hfe;simp only[if_true]at hres;refine' JM;refine KV (Kr L.toLibW _ _ _ _) rfl rfl rfl ?_;subst hH1;rw[hres];exact JS JZ ⟨_,hR,rfl,rfl⟩
  ·simp only[if_neg hfe]at hres;have hfe2:0<fit.length:=Cg.2 hfe;obtain rfl:s4=13:=hs4 (λh=>by rw[h]at hfm;simp only[Af]at hfm;omega);have hfi:=hli.isL;have hfl2:fit.length<=600000:=O;refine' JM;refine JB hm (λmm e S'=>∃(q:Nat) (J:List Blk) (rw5:List Nat),S'=⟨hp H1 H.length (.cells (Jb ex0)) (.cells (Jb (.mk op nm (x::l) ty a))::J),rw5⟩/\q<=fit.length/\(fit.find? λm=>JcT cs U m.2.2 fit)=((fit.drop q).find? λm=>JcT cs U m.2.2 fit)/\Rx rw rw5/\mm=fit.length-q /\
    e=[(0,.ptr rb 0),(3,.ptr (H1.length+0) 0),(4,.ptr H.length 0),(5,.list 13 t4 (Ko fit)),(47,.list 13 t4 (Ko fit)),(48,.int .i64 ((Ko fit).length:Int)),(49,.int .i64 q)]) ?_ (m:=fit.length) ⟨0,_,rw3,rfl,O,rfl,hR,rfl,rfl⟩
   clear hR hq hq0 hfl hli q J hs4 hos hml os;rintro mm e S' ⟨q,J,rw5,rfl,hq0,hod,hR,rfl,rfl⟩;by_cases hq:q<fit.length
   ·obtain⟨o,ho⟩:∃ x,fit[q]? = some x:=⟨_,Ab hq⟩
    have hor:=ZR ho;obtain⟨hok,hol⟩:=hfo o (Aq ho);rw[JsT ho]at hod;have hbst:=λ(M:List Blk)=>TbU.best L.toLibW (rw:=rw5) (T.keep (JF hH1 (.cells (Jb ex0)) M)) (hFb _ _) hfi o (λp hp=>⟨(hfo p hp).1.par,by rw[(hfo p hp).2,hol]⟩) hok.par hok.len O;obtain⟨s1,s2,mn,mp,⟨k2,n2,u2,e2,p2,a2⟩,bd,ab,at1⟩:=o;simp only at hor hod hbst;refine' JM;rw[Jl9];obtain⟨rw6,hR6,hd⟩:=hbst (.cells (Jb (.mk op nm (x::l) ty a))::(J++[.cells (List.take 13 (KK s1 s2 ⟨mn,mp,.mk k2 n2 u2 e2 p2 a2,bd,ab,at1⟩))]));refine Je rfl rfl rfl ?_;refine Ks hd ?_;replace hR:=hR.trans hR6;clear hd hbst;refine JQ ?_;cases hf:JcT cs U ⟨mn,mp,.mk k2 n2 u2 e2 p2 a2,bd,ab,at1⟩ fit with
    | true=>rw[hf,if_pos rfl]at hod;rw[hod]at hres;replace hres:res=.ok (.mk op s1 (x::l) [VD (.mk k2 n2 u2 e2 p2 a2)] a):=hres;have htd:TxOk pr F 182 [.agg (Jb (.mk op s1 (x::l) ty a)),.agg (Jl (.mk k2 n2 u2 e2 p2 a2))] (.agg (Jb (.mk op s1 (x::l) [VD (.mk k2 n2 u2 e2 p2 a2)] a))):=YK L.toLibW _ _;refine' JM;rw[show Jh (List.take 1 (Jb (.mk op nm (x::l) ty a))++[.str s1]++List.drop 2 (Jb (.mk op nm (x::l) ty a)))=Jb (.mk op s1 (x::l) ty a) from(JG (.mk op s1 (x::l) ty a)).can];refine' JM;rw[hres];exact Ju hH1 rfl (JG (.mk op s1 (x::l) [VD (.mk k2 n2 u2 e2 p2 a2)] a)) ⟨_,hR,rfl,rfl⟩
    | false=>rw[hf,if_neg BO]at hod;refine' JM;exact⟨fit.length-(q+1),O,q+1,_,rw6,rfl,O,hod,hR,rfl,rfl⟩
   ·rw[AU O]at hod;rw[hod]at hres;replace hres:res=Kz 133 a:=hres;refine' JM;refine KV (Kr L.toLibW _ _ _ _) rfl rfl rfl ?_;subst hH1;rw[hres];exact JS JZ ⟨_,hR,rfl,rfl⟩
theorem Jol{cs:List Cls}{U:List (List Nat)}{r:Room}{l:List Xp}{q:Nat}{t:Xp}(h:l[q]? = some t):QH cs U r none (l.drop q)=(exF cs U r t).bind λt'=>(QH cs U r none (l.drop (q+1))).bind λl'=>.ok (t'::l'):=by obtain⟨hl,he⟩:=Ac.1 h;rw[AY hl,he,QH]
theorem TbU.class_(L:LibW pr F){H:List Blk}{rw:List Nat}{nt:Nat}{cs:List Cls}{U:List (List Nat)}(T:TbU H nt cs U)(s:Jk) :
  ∃(v:List AV) (rw':List Nat),Row 9 v/\(∀ i c,J6 cs s=some i->cs[i]? = some c->v=Jc c)/\Rx rw rw'/\Det pr F 36 [.ptr nt 0,.str s] ⟨H,rw⟩ (.ret (.tup [.agg v,.bool (J6 cs s).isSome])) ⟨H,rw'⟩:=by
 obtain⟨mb,z,zb,tg,tb,o1,o2,o3,sl,h1,h2⟩:=T;exact JkG L.toLibG h1 s
theorem TbU.ctorOf(L:LibW pr F){H:List Blk}{rw:List Nat}{nt:Nat}{cs:List Cls}{U:List (List Nat)}(T:TbU H nt cs U)(s:Jk) :
  ∃ rw',Rx rw rw'/\Det pr F 118 [.ptr nt 0,.str s] ⟨H,rw⟩ (.ret (Jek (ZT cs s))) ⟨H,rw'⟩:=by
 obtain⟨mb,z,zb,tg,tb,o1,o2,o3,sl,h1,h2⟩:=T;exact Jp2 L h1 s
theorem JrK{cs:List Cls}(h:ClsOk cs)(s:Jk):∀ p∈VW cs s,Zm p.type:=by
 intro p hp;unfold VW at hp;cases hk:ZT cs s with
 | none=>rw[hk]at hp;cases hp
 | some k=>
  rw[hk]at hp;change p∈k.params at hp;unfold ZT at hk;split at hk
  ·rename_i i hi;obtain⟨c,hc,hk⟩:=Option.bind_eq_some_iff.1 hk;have hcm:=Aq hc;have hkm:k∈c.ctors:=List.mem_of_head? hk;have h1:=Q3 (w:=V1) hcm;have h2:=Q3 (w:=JcM) hkm;have h3:=Q3 (w:=V0) hp;have h4:=h.wt;refine⟨.inl ((h.okc c hcm).2.2.2.2.2.1 k hkm p hp).2,?_⟩;simp only[V1]at h1;simp only[JcM]at h2;simp only[V0]at h3;omega
  ·cases hk
theorem JsU(L:LibY pr F){cs:List Cls}{U:List (List Nat)}(C:Cst cs U){k:Nat}(hE:ExC pr F cs U k){H:List Blk}{rw:List Nat}{rb nt:Nat}{r:Room}{op n:Jk}{l:List Xp}{ty:List Ty}{a:Int}(T:TbU H nt cs U)(hrb:H[rb]? = some (.cells (JC nt r)))(hr:RmOk r)
  (hv:r.vars.length+KE l<=100000000) (hv2:KE l<=64800000) (hx:KP l) (hk:KE l<k) :
  ∃ rw',Rx rw rw'/\Det pr F 220 [.ptr rb 0,.agg (Jb (.mk op n l ty a))] ⟨H,rw⟩ (KR ExA (Jef cs U r op n l a)) ⟨H,rw'⟩:=by
 have hm:=L.hm;suffices h:Wp pr F 220 [.ptr rb 0,.agg (Jb (.mk op n l ty a))] ⟨H,rw⟩ λr' S'=>∃ rw',Rx rw rw'/\r'=KR ExA (Jef cs U r op n l a)/\S'=⟨H,rw'⟩ by obtain⟨r',S',hd,rw',h1,rfl,rfl⟩:=h.det hm;exact⟨rw',h1,hd⟩
 have hR:Rx rw rw:=Rx.rfl;have hel:=JV l;have hvl:=Zf l;have hres:Jef cs U r op n l a=match (J6 cs n).bind λi=>cs[i]? with
  | none=>Kz 121 a
  | some c=>if c.iface then Kz 139 a else
   (QH cs U r none l).bind λl'=>if KS cs U l' (VW cs n)then .ok (.mk op n l' [Yr n] a)else Kz 132 a:=rfl
 generalize Jef cs U r op n l a=res at *;refine Jt hm L.f220.1 L.f220.2 rfl ?_;refine Kt hm ?_;unfold Jvw;show At pr F H.length (fin _ H.length _) _ _ _ _;refine Ku hm ?_;intro H1 hH1 hlen hlt;have hFb:=J1 hH1 hrb;refine' JM;refine Kj (q:=H.length) rfl rfl (Kh hlt) ?_;refine' JM;obtain⟨v,rw4,hv9,hvc,hR4,hd⟩:=TbU.class_ L.toLibW (T.keep (JF hH1 (.cells (Jb ex0)) [.cells (Jb (.mk op n l ty a)),.cells [.str [],.bool false,.str [],.list 0 .full [],.list 0 .full [],.list 0 .full [],.list 0 .full [],.list 0 .full [],.int .i64 0]])) n (rw:=rw);refine Je rfl rfl rfl ?_;refine Ks hd ?_;clear hd;replace hR:=hR.trans hR4;cases hpl:J6 cs n with
 | none=>rw[hpl]at hres;replace hres:res=Kz 121 a:=hres;simp only[BU];obtain⟨v1,v2,v3,v4,v5,v6,v7,v8,v9,rfl⟩:=J0O hv9.len;refine JQ ?_;refine' JM;refine KV (Kr L.toLibW _ _ _ _) rfl rfl rfl ?_;subst hH1;rw[hres];exact JS JZ ⟨_,hR,rfl,rfl⟩
 | some i=>
  obtain⟨c,hc,hcn⟩:=Xf hpl;have:=hvc i c hpl hc;subst this;rw[hpl,Co,hc]at hres;replace hres:res=if c.iface then Kz 139 a else
   (QH cs U r none l).bind λl'=>if KS cs U l' (VW cs n)then .ok (.mk op n l' [Yr n] a)else Kz 132 a:=hres
  simp only[Bj];obtain⟨c1,c2,c3,c4,c5,c6,ct,c8,c9⟩:=c;simp only at hres;clear hvc hc hcn;refine JQ ?_;cases c2 with
  | true=>rw[if_pos rfl]at hres;refine' JM;refine KV (Kr L.toLibW _ _ _ _) rfl rfl rfl ?_;subst hH1;rw[hres];exact JS JZ ⟨_,hR,rfl,rfl⟩
  | false=>
   rw[if_neg BO]at hres;refine' JM;refine JB hm (λmm e S'=>∃(q:Nat) (done:List Xp) (J:List Blk) (lv:AV) (rw3:List Nat),S'=⟨hp H1 H.length (.cells (Jb ex0)) (.cells (Jb (.mk op n l ty a))::J),rw3⟩/\q<=l.length/\done.length=q/\(∀ y∈done,Zm (Q4 y))/\Lst rw4 5 lv (Ja done) rw3/\Rx rw4 rw3 /\
    QH cs U r none l=((QH cs U r none (l.drop q)).bind λm=>.ok (done++m))/\mm=l.length-q /\
    e=[(0,.ptr rb 0),(3,.ptr (H1.length+0) 0),(4,.ptr H.length 0),(7,lv),(33,Kp 5 (Ja l)),(34,.int .i64 ((Ja l).length:Int)),(35,.int .i64 q)]) ?_ (m:=l.length) ⟨0,[],_,_,rw4,rfl,O,rfl,λy hy=>(by cases hy),Lst.nil,Rx.rfl,?_,rfl,rfl⟩
   rotate_left
   ·simp only[AA,Au];cases QH cs U r none l <;> rfl
   rintro mm e S' ⟨q,done,J,lv,rw3,rfl,hq0,hdl,hdx,hli,hR3,hod,rfl,rfl⟩;have hdl2:=JV done;by_cases hq:q<l.length
   ·obtain⟨x,hx2⟩:∃ x,l[q]? = some x:=⟨_,Ab hq⟩
    have hxr:(Ja l)[q]? = some (Jb x):=by rw[KB,Ax,hx2];rfl
    have hl5:Kp 5 (Ja l)=.list 5 .dead (Ja l):=Kf (i:=q) O;rw[Jol hx2]at hod;have hxm:=Aq hx2;have hxw:=ZJ hx hxm;have hxv:=JaI hxm;rw[hl5];refine' JM;obtain⟨rw6,hR6,hd⟩:=hE _ rw3 rb nt r x (T.keep (JF hH1 _ _)) (hFb _ _) hr O O hxw O;refine Kk hd rfl rfl rfl ?_ ?_
    ·intro c hc;rw[hres,hod,hc];subst hH1;exact KM (JS JZ ⟨_,(hR.trans hR3).trans hR6,rfl,rfl⟩)
    intro x' v hvx hc;change v=.agg (Jb x')at hvx;subst hvx;have hX:=C.of hr hxw O hc;rw[hc]at hod;clear hd;replace hli:=hli.ext hR6;replace hR3:=hR3.trans hR6;refine JQ ?_;refine Qp ?_;refine Q1 rfl (vs:=[.agg (Jb x')]) rfl ?_;refine Z2 (JG x') ?_;refine' JM;refine JT ?_;refine JW rfl rfl rfl ?_;refine QB hli hR3 AH AH O ?_;intro l4 rw7 hl4 hR7;refine JQ ?_;refine' JM;refine⟨l.length-(q+1),O,q+1,done++[x'],_,l4,rw7,rfl,O,Fu,?_,Fv,hR7,?_,rfl,Fc⟩
    ·intro y hy;rcases AM.1 hy with hy |hy
     ·exact hdx y hy
     ·rw[AN.1 hy];exact hX
    ·rw[hod];show((QH cs U r none (l.drop (q+1))).bind λl'=>.ok (x'::l')).bind _=_;cases QH cs U r none (l.drop (q+1)) <;> simp[Except.bind]
   ·rw[AU O,QH]at hod;change QH cs U r none l=.ok (done++[])at hod;rw[Ar]at hod;rw[hod]at hres;replace hres:res=if KS cs U done (VW cs n)then .ok (.mk op n done [Yr n] a)else Kz 132 a:=hres
    have hcn:=hli.isL.canon;have hfi:=hli.isL.q;obtain⟨s4,t4,rfl,-,-⟩:=hli.isL.ex;replace hR:=hR.trans hR3;have hcc:Jh [.str op,.str n,.list s4 t4 (Ja done),Kp 6 (Jo ty),.int .i64 a]=Jb (.mk op n done ty a):=by simp only[Jh,Ap,AC,hcn,Jq,Jb];rfl
    refine' JM;obtain⟨rw5,hR5,hd⟩:=TbU.ctorOf L.toLibW (T.keep (JF hH1 (.cells (Jb ex0)) (.cells [.str op,.str n,.list s4 t4 (Ja done),Kp 6 (Jo ty),.int .i64 a]::(J++[.cells (Jw Jjt)])))) n (rw:=rw3);refine Je rfl rfl rfl ?_;refine Ks hd ?_;replace hR:=hR.trans hR5;clear hd;have hcp:VW cs n=((ZT cs n).getD Jjt).params:=by unfold VW;cases ZT cs n <;> rfl
    have hco:=JrK C.ok n;rw[hcp]at hco hres;simp only[Jek];generalize (ZT cs n).getD Jjt=kc at *;generalize (ZT cs n).isSome=ib at *;obtain⟨kp,ks,ksu,kb,ka⟩:=kc;simp only at hco hres;refine JQ ?_;refine' JM;obtain⟨rw6,hR6,hd⟩:=TbU.takes L.toLibW (T.keep (JF hH1 (.cells (Jb ex0)) (.cells [.str op,.str n,.list s4 t4 (Ja done),Kp 6 (Jo ty),.int .i64 a]::(J++[.cells (Jw ⟨kp,ks,ksu,kb,ka⟩)])))) (hFb _ _) hfi (YM (rows:=kp.map Jf)) hdx hco O (rw:=rw5);refine Je rfl rfl rfl ?_;refine Ks hd ?_;replace hR:=hR.trans hR6;clear hd;refine JQ ?_;have htd:TxOk pr F 182 [.agg (Jb (.mk op n done ty a)),.agg (Jl (Yr n))] (.agg (Jb (.mk op n done [Yr n] a))):=YK L.toLibW _ _;cases hf:KS cs U done kp with
    | true=>rw[hf,if_pos rfl]at hres;refine' JM;rw[hcc];refine' JM;rw[hres];exact Ju hH1 rfl (JG (.mk op n done [Yr n] a)) ⟨_,hR,rfl,rfl⟩
    | false=>rw[hf,if_neg BO]at hres;refine' JM;refine KV (Kr L.toLibW _ _ _ _) rfl rfl rfl ?_;subst hH1;rw[hres];exact JS JZ ⟨_,hR,rfl,rfl⟩
theorem TbU.known(L:LibW pr F){H:List Blk}(rw:List Nat){nt:Nat}{cs:List Cls}{U:List (List Nat)}(T:TbU H nt cs U)(t:Ty)(ht:Xg t<=64800000) :
  Det pr F 20 [.ptr nt 0,.agg (Jl t)] ⟨H,rw⟩ (.ret (.agg [.int .i64 (KX cs t).1,.int .i64 (KX cs t).2])) ⟨H,rw⟩:=by
 obtain⟨mb,z,zb,tg,tb,o1,o2,o3,sl,h1,h2⟩:=T;exact Jdn L.toLibE (Xg t+1) t O ht h1.toTabL.toTabM
theorem TbU.pass(L:LibW pr F){H:List Blk}(rw:List Nat){nt:Nat}{cs:List Cls}{U:List (List Nat)}(T:TbU H nt cs U)(c a:Int):Det pr F 224 [.agg [.int .i64 c,.int .i64 a]] ⟨H,rw⟩ (KR (λ_=>.tup []) (Jab (c,a))) ⟨H,rw⟩:=by obtain⟨mb,z,zb,tg,tb,o1,o2,o3,sl,h1,h2⟩:=T;exact JvQ L h1.at_ rw c a
theorem JvW(L:LibY pr F){cs:List Cls}{U:List (List Nat)}(C:Cst cs U){k:Nat}(hE:ExC pr F cs U k)(hT:TyC pr F cs U k){H:List Blk}{rw:List Nat}{rb nt:Nat}{r:Room}{op n:Jk}{x y:Xp}{t:Ty}{a:Int}(T:TbU H nt cs U)(hrb:H[rb]? = some (.cells (JC nt r)))(hr:RmOk r)
  (hv:r.vars.length+(VY x+VY y+Xg t)<=100000000) (hv2:VY x+VY y+Xg t<=64800000) (hx:Q7 x) (hy:Q7 y) (ht:Vg t) (hk:VY x+VY y+Xg t<k) :
  ∃ rw',Rx rw rw'/\Det pr F 221 [.ptr rb 0,.agg (Jb (.mk op n [x,y] [t] a))] ⟨H,rw⟩ (KR ExA (JgY cs U r op n [x,y] [t] a)) ⟨H,rw'⟩:=by
 have hm:=L.hm;suffices h:Wp pr F 221 [.ptr rb 0,.agg (Jb (.mk op n [x,y] [t] a))] ⟨H,rw⟩ λr' S'=>∃ rw',Rx rw rw'/\r'=KR ExA (JgY cs U r op n [x,y] [t] a)/\S'=⟨H,rw'⟩ by obtain⟨r',S',hd,rw',h1,rfl,rfl⟩:=h.det hm;exact⟨rw',h1,hd⟩
 have hR:Rx rw rw:=Rx.rfl;have hres:JgY cs U r op n [x,y] [t] a=(Jab (KX cs t)).bind λ_=>(tyF cs U Vy t).bind λt'=>(exF cs U r x).bind λx'=>(exF cs U r y).bind λy'=>
   if V6 (Q4 x')=1/\Vd cs U (Q4 y') t'=true then .ok (.mk op n [x',y'] [t'] a)else Kz 131 a:=by
  unfold JgY;simp only[DM,YV,QH];cases Jab (KX cs t)with
  | error c=>rfl
  | ok u=>
   cases tyF cs U Vy t with
   | error c=>rfl
   | ok t'=>
    cases exF cs U r x with
    | error c=>rfl
    | ok x'=>
     cases exF cs U r y with
     | error c=>rfl
     | ok y'=>rfl
 generalize JgY cs U r op n [x,y] [t] a=res at *;have ht0:(Jo [t])[0]? = some (Jl t):=rfl;have hx0:(Ja [x,y])[0]? = some (Jb x):=rfl;have hx1:(Ja [x,y])[1]? = some (Jb y):=rfl;have hln:(Ja [x,y]).length=2:=rfl;have hlt1:(Jo [t]).length=1:=rfl;refine Jt hm L.f221.1 L.f221.2 rfl ?_;refine Kt hm ?_;unfold Jvx;show At pr F H.length (fin _ H.length _) _ _ _ _;refine Ku hm ?_;intro H1 hH1 hlen hlt;have hFb:=J1 hH1 hrb;refine' JM;refine Kj (q:=H.length) rfl rfl (Kh hlt) ?_;refine' JM;have T1:=λM=>T.keep (JF hH1 (.cells (Jb ex0)) M);have hkn:=λM=>TbU.known L.toLibW rw (T1 M) t O;have hpa:=λM=>TbU.pass L.toLibW rw (T1 M) (KX cs t).1 (KX cs t).2;refine Je rfl rfl rfl ?_;refine Ks (hkn [.cells (Jb (.mk op n [x,y] [t] a))]) ?_;refine JQ ?_;refine Kk (hpa [.cells (Jb (.mk op n [x,y] [t] a))]) rfl rfl rfl ?_ ?_
 ·intro c hc;change Jab (KX cs t)=_ at hc;rw[hc]at hres;subst hH1;rw[hres];exact JS JZ ⟨_,hR,rfl,rfl⟩
 intro u v hvx hc;change Jab (KX cs t)=_ at hc;subst hvx;rw[hc]at hres;replace hres:res=(tyF cs U Vy t).bind λt'=>(exF cs U r x).bind λx'=>(exF cs U r y).bind λy'=>
   if V6 (Q4 x')=1/\Vd cs U (Q4 y') t'=true then .ok (.mk op n [x',y'] [t'] a)else Kz 131 a:=hres
 clear hkn hpa;refine JQ ?_;refine' JM;obtain⟨rw1,hR1,hd⟩:=hT (hp H1 H.length (.cells (Jb ex0)) [.cells (Jb (.mk op n [x,y] [t] a)),.cells (JC nt Vy),.cells (Jl (KL 0))]) rw nt Vy t (T1 _) JhG Ck O (.inl ht) O;refine Kk hd rfl rfl rfl ?_ ?_
 ·intro c hc;rw[hc]at hres;subst hH1;rw[hres];exact JS JZ ⟨_,hR.trans hR1,rfl,rfl⟩
 intro t' v hvx hc;change v=.agg (Jl t')at hvx;subst hvx;rw[hc]at hres;have htw:=C.ty JhG ht O hc;have hTX:Zm t':=⟨.inl htw.1,O⟩
 replace hres:res=(exF cs U r x).bind λx'=>(exF cs U r y).bind λy'=>
   if V6 (Q4 x')=1/\Vd cs U (Q4 y') t'=true then .ok (.mk op n [x',y'] [t'] a)else Kz 131 a:=hres
 clear hd;replace hR:=hR.trans hR1;refine JQ ?_;refine' JM;obtain⟨rw2,hR2,hd⟩:=hE (hp H1 H.length (.cells (Jb ex0)) [.cells (Jb (.mk op n [x,y] [t] a)),.cells (JC nt Vy),.cells (Jl t'),.cells (Jb ex0),.cells (Jb ex0)]) rw1 rb nt r x (T1 _) (hFb _ _) hr O O hx O;refine Kk hd rfl rfl rfl ?_ ?_
 ·intro c hc;rw[hc]at hres;subst hH1;rw[hres];exact JS JZ ⟨_,hR.trans hR2,rfl,rfl⟩
 intro x' v hvx hc;change v=.agg (Jb x')at hvx;subst hvx;rw[hc]at hres;have hX:=C.of hr hx O hc;replace hres:res=(exF cs U r y).bind λy'=>
   if V6 (Q4 x')=1/\Vd cs U (Q4 y') t'=true then .ok (.mk op n [x',y'] [t'] a)else Kz 131 a:=hres
 clear hd;replace hR:=hR.trans hR2;refine JQ ?_;obtain⟨rw3,hR3,hd⟩:=hE (hp H1 H.length (.cells (Jb ex0)) [.cells (Jb (.mk op n [x,y] [t] a)),.cells (JC nt Vy),.cells (Jl t'),.cells (Jb ex0),.cells (Jb ex0)]) rw2 rb nt r y (T1 _) (hFb _ _) hr O O hy O;refine Kk hd rfl rfl rfl ?_ ?_
 ·intro c hc;rw[hc]at hres;subst hH1;rw[hres];exact JS JZ ⟨_,hR.trans hR3,rfl,rfl⟩
 intro y' v hvx hc;change v=.agg (Jb y')at hvx;subst hvx;rw[hc]at hres;have hY:=C.of hr hy O hc;replace hres:res=if V6 (Q4 x')=1/\Vd cs U (Q4 y') t'=true then .ok (.mk op n [x',y'] [t'] a)else Kz 131 a:=hres
 clear hd;replace hR:=hR.trans hR3;refine JQ ?_;have hof:=Zp L.toLibW x';have hof2:=Zp L.toLibW y';generalize Q4 x'=tx at *;obtain⟨k1,n1,u1,e1,p1,a1⟩:=tx;by_cases hk1:k1=1
 ·subst hk1;refine' JM;obtain⟨rw4,hR4,hd⟩:=TbU.fits L.toLibW (T1 [.cells (Jb (.mk op n [x,y] [t] a)),.cells (JC nt Vy),.cells (Jl t'),.cells (Jb x'),.cells (Jb y')]) hY hTX (rw:=rwt);refine Je rfl rfl rfl ?_;refine Ks hd ?_;replace hR:=hR.trans hR4;clear hd;refine JQ ?_;cases hf:Vd cs U (Q4 y') t' with
  | true=>rw[if_pos ⟨rfl,hf⟩]at hres;refine' JM;rw[hres];change fin _ _ _ _ _ ⟨hp H1 H.length (.cells (Jb (.mk op n [x',y'] [t'] a))) _,_⟩;exact Ju hH1 rfl (JG (.mk op n [x',y'] [t'] a)) ⟨_,hR,rfl,rfl⟩
  | false=>rw[if_neg (λh=>by rw[hf]at h;exact BO h.2)]at hres;refine' JM;refine KV (Kr L.toLibW _ _ _ _) rfl rfl rfl ?_;subst hH1;rw[hres];exact JS JZ ⟨_,hR,rfl,rfl⟩
 ·rw[if_neg (λh=>hk1 h.1)]at hres;refine' JM;refine KV (Kr L.toLibW _ _ _ _) rfl rfl rfl ?_;subst hH1;rw[hres];exact JS JZ ⟨_,hR,rfl,rfl⟩
theorem TbU.field_(L:LibW pr F){H:List Blk}{rw:List Nat}{rb nt:Nat}{cs:List Cls}{U:List (List Nat)}(T:TbU H nt cs U){r:Room}(hrb:H[rb]? = some (.cells (JC nt r)))(on:Xp)(nm:Jk)(a:Int) :
  ∃ rw',Rx rw rw'/\Det pr F 186 [.ptr rb 0,.agg (Jb on),.str nm,.int .i64 a] ⟨H,rw⟩ (KR JRI (XU cs on nm a)) ⟨H,rw'⟩:=by
 obtain⟨mb,z,zb,tg,tb,o1,o2,o3,sl,h1,h2⟩:=T;exact Jp1 L h1 hrb on nm a
theorem JsV{cs:List Cls}{U:List (List Nat)}{r:Room}{kk:Option Int}{l:List Xp}{q:Nat}{t:Xp}(h:l[q]? = some t):QH cs U r (if q=0 then kk else none) (l.drop q)=(exF cs U r t).bind λt'=>match (if q=0 then kk else none)with
  | some a=>if V6 (Q4 t')≠3 then Kz 131 a else(QH cs U r none (l.drop (q+1))).bind λl'=>.ok (t'::l')
  | none=>(QH cs U r none (l.drop (q+1))).bind λl'=>.ok (t'::l'):=by
 obtain⟨hl,he⟩:=Ac.1 h;rw[AY hl,he,QH];cases exF cs U r t with
 | error c=>rfl
 | ok t'=>cases(if q=0 then kk else none) <;> rfl
def JvX:IC:=(.seq JhN (.seq (.seq JhO (.block 3 (.seq JhP (.cond (.tmp 138) (.seq JhQ (.seq (.seq JhR (.cond (.tmp 157) JhS (.skip))) (.seq JhT .ret))) (.seq JhU (.cond (.tmp 165) (.seq JhV .ret) (.seq JhW (.cond (.tmp 170) (.seq JhX (.seq (.seq JhY (.cond (.tmp 186) JhZ (.skip))) (.seq Jh0 .ret))) (.seq Jh1 (.cond (.tmp 196) (.seq (.seq Jh2 (.cond (.tmp 203) Jh3 (.skip))) (.seq Jh4 .ret)) (.skip))))))))))) (.seq Jh5 .ret)))
def JEr(op:Jk)(l:List Xp):Prop:=(op=[102,105,101,108,100]->∃ x,l=[x])/\(op=[99,97,108,108]->∃ x m,l=x::m)/\(op=[105,110,100,101,120]->∃ x y,l=[x,y])/\(op=[108,101,110]->∃ x,l=[x])/\(op3 op->∃ x y m,l=x::y::m)
theorem JsW(L:LibY pr F){cs:List Cls}{U:List (List Nat)}(C:Cst cs U){k:Nat}(hE:ExC pr F cs U k){H H1:List Blk}{z:Blk}{rw:List Nat}{rb nt:Nat}{r:Room}{op n:Jk}{l:List Xp}{ty:List Ty}{a:Int}(T:TbU H nt cs U)(hrb:H[rb]? = some (.cells (JC nt r)))(hr:RmOk r)
  (hv:r.vars.length+KE l<=100000000) (hv2:KE l<=64800000) (hx:KP l) (hk:KE l<k) (ed:IC) (hH1:H1=H++[z]) (hlt:H.length<H1.length) {rw0:List Nat} {res:Er Xp} (hR0:Rx rw0 rw)
  (hres:res=(QH cs U r (if op=[99,97,108,108] then some a else none) l).bind λl'=>YU cs U r op n l' ty a)
  (hend:∀(done:List Xp) (J:List Blk) (lv:AV) (rw3:List Nat),done.length=l.length->(∀ y∈done,Zm (Q4 y))->IsL 5 lv (Ja done)->Rx rw0 rw3->res=YU cs U r op n done ty a ->
   At pr F H.length (fin [.cell 4 (some 5)] H.length λr' S'=>∃ rw',Rx rw0 rw'/\r'=KR ExA res/\S'=⟨H,rw'⟩) ed [] [(0,.ptr rb 0),(3,.ptr (H1.length+0) 0),(4,.ptr H.length 0),(7,lv),(102,Kp 5 (Ja l)),(103,.int .i64 ((Ja l).length:Int)),(104,.int .i64 (l.length:Int)),(105,.bool false)] ⟨hp H1 H.length (.cells (Jb ex0)) (.cells (Jb (.mk op n l ty a))::J),rw3⟩) :
  At pr F H.length (fin [.cell 4 (some 5)] H.length λr' S'=>∃ rw',Rx rw0 rw'/\r'=KR ExA res/\S'=⟨H,rw'⟩)
   (.loop [0,3,4,7,102,103,104] (.seq JhH (.seq (.cond (.tmp 105) (.skip) (.exit 1)) (.seq (.block 2 (.seq JhI (.seq JhJ (.seq JhK (.cond (.tmp 129) JhL (.skip)))))) JhM)))) [.blk 1,.code ed]
   [(0,.ptr rb 0),(3,.ptr (H1.length+0) 0),(4,.ptr H.length 0),(7,.list 0 .full []),(102,Kp 5 (Ja l)),(103,.int .i64 ((Ja l).length:Int)),(104,.int .i64 0)]
   ⟨hp H1 H.length (.cells (Jb ex0)) [.cells (Jb (.mk op n l ty a))],rw⟩:=by
 have hm:=L.hm;have hel:=JV l;have hvl:=Zf l;have hFb:=J1 hH1 hrb;refine JB hm (λmm e S'=>∃(q:Nat) (done:List Xp) (J:List Blk) (lv:AV) (rw3:List Nat),S'=⟨hp H1 H.length (.cells (Jb ex0)) (.cells (Jb (.mk op n l ty a))::J),rw3⟩/\q<=l.length/\done.length=q/\(∀ y∈done,Zm (Q4 y))/\Lst rw 5 lv (Ja done) rw3/\Rx rw rw3 /\
    QH cs U r (if op=[99,97,108,108] then some a else none) l=((QH cs U r (if q=0 then(if op=[99,97,108,108] then some a else none)else none) (l.drop q)).bind λm=>.ok (done++m))/\mm=l.length-q /\
    e=[(0,.ptr rb 0),(3,.ptr (H1.length+0) 0),(4,.ptr H.length 0),(7,lv),(102,Kp 5 (Ja l)),(103,.int .i64 ((Ja l).length:Int)),(104,.int .i64 q)]) ?_ (m:=l.length) ⟨0,[],_,_,rw,rfl,O,rfl,λy hy=>(by cases hy),Lst.nil,Rx.rfl,?_,rfl,rfl⟩
 rotate_left
 ·simp only[AA,Au,if_true];cases QH cs U r (if op=[99,97,108,108] then some a else none) l <;> rfl
 rintro mm e S' ⟨q,done,J,lv,rw3,rfl,hq0,hdl,hdx,hli,hR,hod,rfl,rfl⟩;have hdl2:=JV done;by_cases hq:q<l.length
 ·obtain⟨x,hx2⟩:∃ x,l[q]? = some x:=⟨_,Ab hq⟩
  have hxr:(Ja l)[q]? = some (Jb x):=by rw[KB,Ax,hx2];rfl
  have hl5:Kp 5 (Ja l)=.list 5 .dead (Ja l):=Kf (i:=q) O;rw[JsV hx2]at hod;have hxm:=Aq hx2;have hxw:=ZJ hx hxm;have hxv:=JaI hxm;rw[hl5];refine' JM;obtain⟨rw6,hR6,hd⟩:=hE _ rw3 rb nt r x (T.keep (JF hH1 _ _)) (hFb _ _) hr O O hxw O;refine Kk hd rfl rfl rfl ?_ ?_
  ·intro c hc;rw[hres,hod,hc];subst hH1;exact KM (JS JZ ⟨_,(hR0.trans hR).trans hR6,rfl,rfl⟩)
  intro x' v hvx hc;change v=.agg (Jb x')at hvx;subst hvx;have hX:=C.of hr hxw O hc;rw[hc]at hod;clear hd;replace hli:=hli.ext hR6;replace hR:=hR.trans hR6;refine JQ ?_;refine Qp ?_;refine Q1 rfl (vs:=[.agg (Jb x')]) rfl ?_;refine Z2 (JG x') ?_;refine' JM;refine JT ?_;refine JW rfl rfl rfl ?_;refine QB hli hR AH AH O ?_;intro l4 rw7 hl4 hR7;replace hR:=hR7;have hl4':Lst rw 5 l4 (Ja (done++[x'])) rw7:=Fv
  clear hl4;have hdx':∀ y∈done++[x'],Zm (Q4 y):=by
   intro y hy;rcases AM.1 hy with hy |hy
   ·exact hdx y hy
   ·rw[AN.1 hy];exact hX
  obtain⟨s4,t4,rfl,hs4,-⟩:=hl4'.isL.ex;have hdl4:(Ja (done++[x'])).length=q+1:=by rw[JV];simp[hdl]
  by_cases hc1:op=[99,97,108,108]
  ·subst hc1;simp only[if_true]at hod |-;cases q with
   | zero=>
    obtain rfl:done=[]:=Bz.1 hdl;obtain rfl:s4=5:=hs4 (by intro h;rw[h]at hdl4;simp at hdl4);have hzr:(Ja ([]++[x']))[0]? = some (Jb x'):=rfl;have hof:=Zp L.toLibW x';simp only[if_true]at hod;generalize hot:Q4 x'=tx at *;obtain⟨k1,n1,u1,e1,p1,a1⟩:=tx;by_cases hk1:k1=3
    ·subst hk1;refine JQ ?_;refine' JM;refine⟨l.length-1,O,1,[x'],_,_,rwt,rfl,O,rfl,hdx',hl4'.ext hRt,hR,?_,rfl,Fc⟩;rw[hod];show(if V6 (Q4 x')≠3 then Kz 131 a else _).bind _=_;rw[if_neg (by rw[hot];exact λh=>h rfl),if_neg (show ¬(1=0) by omega)];show((QH cs U r none (List.drop 1 l)).bind λl'=>.ok (x'::l')).bind _=_;cases QH cs U r none (List.drop 1 l) <;> rfl
    ·refine JQ ?_;refine' JM;refine KV (Kr L.toLibW _ _ _ _) rfl rfl rfl ?_;have hr2:res=(QH cs U r (some a) l).bind λl'=>YU cs U r [99,97,108,108] n l' ty a:=by rw[hres,if_pos rfl]
     rw[hr2,hod];have hgi:(if V6 (Q4 x')≠3 then Kz 131 a else(QH cs U r none (List.drop (0+1) l)).bind λl'=>.ok (x'::l'))=(Kz 131 a:Er (List Xp)):=if_pos (by rw[hot];exact hk1);show Back pr F _ _ _ (.panic (Xs (131,a))) _ _;subst hH1;refine KM (JS JZ ⟨_,hR0.trans hR,?_,rfl⟩);show Res.panic _=KR ExA ((((if V6 (Q4 x')≠3 then Kz 131 a else(QH cs U r none (List.drop (0+1) l)).bind λl'=>.ok (x'::l')):Er (List Xp)).bind _).bind _);rw[hgi];rfl
   | succ q=>refine JQ ?_;refine' JM;refine⟨l.length-(q+1+1),O,q+1+1,done++[x'],_,_,rw7,rfl,O,Fu,hdx',hl4',hR,?_,rfl,Fc⟩;rw[hod];simp only[if_neg (Nat.succ_ne_zero _)];cases QH cs U r none (l.drop (q+1+1)) <;> simp[Except.bind]
  ·simp only[if_neg hc1]at hod |-;refine JQ ?_;have hfin:QH cs U r none l=((QH cs U r (if q+1=0 then none else none) (l.drop (q+1))).bind λm=>.ok ((done++[x'])++m)):=by
    rw[hod];have e1:∀ p:Prop,∀ [Decidable p],(if p then(none:Option Int)else none)=none:=λp _=>by split <;> rfl
    simp only[e1];cases QH cs U r none (l.drop (q+1)) <;> simp[Except.bind]
   by_cases hq1:q=0
   ·refine' JM;exact⟨l.length-(q+1),O,q+1,done++[x'],_,_,rw7,rfl,O,Fu,hdx',hl4',hR,hfin,rfl,Fc⟩
   ·refine' JM;exact⟨l.length-(q+1),O,q+1,done++[x'],_,_,rw7,rfl,O,Fu,hdx',hl4',hR,hfin,rfl,Fc⟩
 ·have hqe:q=l.length:=by omega
  subst hqe;have hnn:QH cs U r (if op=[99,97,108,108] then some a else none) l=.ok done:=by rw[hod,AU (Ao _)];simp[QH,Except.bind]
  rw[hnn]at hres;have:=hend done J lv rw3 hdl hdx hli.isL (hR0.trans hR) hres;refine' JM;exact this
theorem JvY(L:LibY pr F){cs:List Cls}{U:List (List Nat)}(C:Cst cs U){H H1:List Blk}{z:Blk}{rw:List Nat}{rb nt:Nat}{r:Room}{op n:Jk}{l done:List Xp}{ty:List Ty}{a:Int}(T:TbU H nt cs U)(hrb:H[rb]? = some (.cells (JC nt r)))
  (hH1:H1=H++[z]) (hlt:H.length<H1.length) {rw0:List Nat} {res:Er Xp} (hR:Rx rw0 rw) (ha:JEr op done) (hlen:done.length<=64800000) (hdx:∀ y∈done,Zm (Q4 y)) {lv:AV} (hlv:IsL 5 lv (Ja done)) {J:List Blk} {v1 v2 v3 v4:AV}
  (hres:res=YU cs U r op n done ty a) :
  At pr F H.length (fin [.cell 4 (some 5)] H.length λr' S'=>∃ rw',Rx rw0 rw'/\r'=KR ExA res/\S'=⟨H,rw'⟩) JvX [] [(0,.ptr rb 0),(3,.ptr (H1.length+0) 0),(4,.ptr H.length 0),(7,lv),(102,v1),(103,v2),(104,v3),(105,v4)] ⟨hp H1 H.length (.cells (Jb ex0)) (.cells (Jb (.mk op n l ty a))::J),rw⟩:=by
 have hm:=L.hm;have hFb:=J1 hH1 hrb;have hcn:=hlv.canon;obtain⟨s4,t4,rfl,hs4,-⟩:=hlv.ex;have hcc:Jh (List.take 2 (Jb (.mk op n l ty a))++[.list s4 t4 (Ja done)]++List.drop 3 (Jb (.mk op n l ty a)))=Jb (.mk op n done ty a):=by show Jh [.str op,.str n,.list s4 t4 (Ja done),Kp 6 (Jo ty),.int .i64 a]=_;simp only[Jh,Ap,AC,hcn,Jq,Jb];rfl
 have T1:=λM=>T.keep (JF hH1 (.cells (Jb ex0)) M);obtain⟨a1,a2,a3,a4,a5⟩:=ha;unfold JvX;by_cases h1:op=[102,105,101,108,100]
 ·obtain⟨x,rfl⟩:=a1 h1;subst h1;obtain rfl:s4=5:=hs4 Cl;have hx0:(Ja [x])[0]? = some (Jb x):=rfl;have hln:(Ja [x]).length=1:=rfl;have hres2:res=(XU cs x n a).bind λf=>if r.pred && !f.fin then Kz 138 a else .ok (.mk [102,105,101,108,100] n [x] [VD f.type] a):=hres
  refine' JM;obtain⟨rw1,hR1,hd⟩:=TbU.field_ L.toLibW (T1 _) (hFb _ _) x n a (rw:=rw);refine Kk hd rfl rfl rfl ?_ ?_
  ·intro c hc;rw[hc]at hres2;subst hH1;rw[hres2];exact JS JZ ⟨_,hR.trans hR1,rfl,rfl⟩
  intro f v hvx hc;rw[hc]at hres2;obtain⟨fn,⟨k2,n2,u2,e2,p2,b2⟩,ff,fa⟩:=f;change v=.agg (Jn ⟨fn,.mk k2 n2 u2 e2 p2 b2,ff,fa⟩)at hvx;subst hvx;clear hd;replace hR:=hR.trans hR1;obtain⟨rt,rv,rp,rr,rn⟩:=r;replace hres2:res=if rp && !ff then Kz 138 a else .ok (.mk [102,105,101,108,100] n [x] [VD (.mk k2 n2 u2 e2 p2 b2)] a):=hres2
  have htd:TxOk pr F 182 [.agg (Jb (.mk [102,105,101,108,100] n [x] ty a)),.agg (Jl (.mk k2 n2 u2 e2 p2 b2))] (.agg (Jb (.mk [102,105,101,108,100] n [x] [VD (.mk k2 n2 u2 e2 p2 b2)] a))):=YK L.toLibW _ _;refine JQ ?_;have good:∀(e:KC) (M:List Blk) (rw':List Nat),Jj e 4=some (.ptr H.length 0)->Rx rw0 rw'->res=.ok (.mk [102,105,101,108,100] n [x] [VD (.mk k2 n2 u2 e2 p2 b2)] a)->fin [.cell 4 (some 5)] H.length (λr' S'=>∃ rw',Rx rw0 rw'/\r'=KR ExA res/\S'=⟨H,rw'⟩) .ret e ⟨hp H1 H.length (.cells (Jb (.mk [102,105,101,108,100] n [x] [VD (.mk k2 n2 u2 e2 p2 b2)] a))) M,rw'⟩:=λe M rw' he hr' hre=>by rw[hre];exact Ju hH1 he (JG (.mk [102,105,101,108,100] n [x] [VD (.mk k2 n2 u2 e2 p2 b2)] a)) ⟨_,hr',rfl,rfl⟩
  cases rp with
  | true=>
   cases ff with
   | true=>refine' JM;rw[hcc];refine' JM;exact good _ _ _ rfl hR hres2
   | false=>replace hres2:res=Kz 138 a:=hres2;refine' JM;refine KV (Kr L.toLibW _ _ _ _) rfl rfl rfl ?_;subst hH1;rw[hres2];exact JS JZ ⟨_,hR,rfl,rfl⟩
  | false=>refine' JM;rw[hcc];refine' JM;exact good _ _ _ rfl hR hres2
 by_cases h2:op=[99,97,108,108]
 ·obtain⟨x,m,rfl⟩:=a2 h2;subst h2;obtain rfl:s4=5:=hs4 Cl;have hres2:res=JdQ cs U [99,97,108,108] n (x::m) a:=hres;refine' JM;rw[hcc];obtain⟨rw1,hR1,hd⟩:=JvV L C (T1 _) (hFb _ _) [99,97,108,108] n x m ty a hdx (by simp only[Ad]at hlen;omega) (rw:=rw);refine Kk hd rfl rfl rfl ?_ ?_
  ·intro c hc;rw[hc]at hres2;subst hH1;rw[hres2];exact JS JZ ⟨_,hR.trans hR1,rfl,rfl⟩
  intro x' v hvx hc;rw[hc]at hres2;change v=.agg (Jb x')at hvx;subst hvx;clear hd;replace hR:=hR.trans hR1;refine JQ ?_;refine' JM;rw[hres2];exact Ju hH1 rfl (JG x') ⟨_,hR,rfl,rfl⟩
 by_cases h3:op=[105,110,100,101,120]
 ·obtain⟨x,y,rfl⟩:=a3 h3;subst h3;obtain rfl:s4=5:=hs4 Cl;have hx0:(Ja [x,y])[0]? = some (Jb x):=rfl;have hx1:(Ja [x,y])[1]? = some (Jb y):=rfl;have hln:(Ja [x,y]).length=2:=rfl;have hof:=Zp L.toLibW x;have hof2:=Zp L.toLibW y;have hX:=hdx x Ag;have hY:=hdx y Ag;have hres2:res=if V6 (Q4 x)=4/\V6 (Q4 y)=1 then .ok (.mk [105,110,100,101,120] n [x,y] [VD ((elT (Q4 x)).headD (KL 0))] a)else Kz 131 a:=hres
  generalize Q4 x=tx at *;generalize Q4 y=t2 at *;obtain⟨k1,n1,u1,e1,p1,b1⟩:=tx;obtain⟨k2,n2,u2,e2,p2,b2⟩:=t2;replace hres2:res=if k1=4/\k2=1 then .ok (.mk [105,110,100,101,120] n [x,y] [VD (e1.headD (KL 0))] a)else Kz 131 a:=hres2
  by_cases hk1:k1=4
  ·subst hk1;by_cases hk2:k2=1
   ·subst hk2;rw[if_pos ⟨rfl,rfl⟩]at hres2;obtain⟨t0,rfl⟩:∃ t,e1=[t]:=by
     rcases hX.1 with h |h |h
     ·simp only[Vg]at h;rcases h.1 with h |h |h |h
      ·exact absurd h.1 Aj
      ·exact absurd h.1 Aj
      ·exact absurd h.1 Aj
      ·exact h.2.2
     ·simp[KL]at h
     ·simp[KL]at h
    have ht0:(Jo [t0])[0]? = some (Jl t0):=rfl;have hlt1:(Jo [t0]).length=1:=rfl;have htd:TxOk pr F 182 [.agg (Jb (.mk [105,110,100,101,120] n [x,y] ty a)),.agg (Jl t0)] (.agg (Jb (.mk [105,110,100,101,120] n [x,y] [VD t0] a))):=YK L.toLibW _ _;refine' JM;rw[hcc];refine' JM;rw[hres2];exact Ju hH1 rfl (JG (.mk [105,110,100,101,120] n [x,y] [VD t0] a)) ⟨_,hR,rfl,rfl⟩
   ·rw[if_neg (λh=>hk2 h.2)]at hres2;refine' JM;refine KV (Kr L.toLibW _ _ _ _) rfl rfl rfl ?_;subst hH1;rw[hres2];exact JS JZ ⟨_,hR,rfl,rfl⟩
  ·rw[if_neg (λh=>hk1 h.1)]at hres2;refine' JM;refine KV (Kr L.toLibW _ _ _ _) rfl rfl rfl ?_;subst hH1;rw[hres2];exact JS JZ ⟨_,hR,rfl,rfl⟩
 by_cases h4:op=[108,101,110]
 ·obtain⟨x,rfl⟩:=a4 h4;subst h4;obtain rfl:s4=5:=hs4 Cl;have hx0:(Ja [x])[0]? = some (Jb x):=rfl;have hln:(Ja [x]).length=1:=rfl;have hof:=Zp L.toLibW x;have hres2:res=if V6 (Q4 x)=4 then .ok (.mk [108,101,110] n [x] [KL 1] a)else Kz 131 a:=hres
  generalize Q4 x=tx at *;obtain⟨k1,n1,u1,e1,p1,b1⟩:=tx;replace hres2:res=if k1=4 then .ok (.mk [108,101,110] n [x] [KL 1] a)else Kz 131 a:=hres2
  have hs1:=V7 L.toLibW 1;have htd:TxOk pr F 182 [.agg (Jb (.mk [108,101,110] n [x] ty a)),.agg (Jl (KL 1))] (.agg (Jb (.mk [108,101,110] n [x] [KL 1] a))):=YK L.toLibW _ _;by_cases hk1:k1=4
  ·subst hk1;rw[if_pos rfl]at hres2;refine' JM;rw[hcc];refine' JM;rw[hres2];exact Ju hH1 rfl (JG (.mk [108,101,110] n [x] [KL 1] a)) ⟨_,hR,rfl,rfl⟩
  ·rw[if_neg hk1]at hres2;refine' JM;refine KV (Kr L.toLibW _ _ _ _) rfl rfl rfl ?_;subst hH1;rw[hres2];exact JS JZ ⟨_,hR,rfl,rfl⟩
 have hres2:res=Jaa cs U op n done ty a:=by rw[hres];unfold YU;rw[if_neg h1,if_neg h2,if_neg h3,if_neg h4]
 refine' JM;rw[hcc];obtain⟨rw1,hR1,hd⟩:=JvU L (T1 _) (hFb _ _) op n done ty a hdx O a5 (rw:=rw);refine Kk hd rfl rfl rfl ?_ ?_
 ·intro c hc;rw[hc]at hres2;subst hH1;rw[hres2];exact JS JZ ⟨_,hR.trans hR1,rfl,rfl⟩
 intro x' v hvx hc;rw[hc]at hres2;change v=.agg (Jb x')at hvx;subst hvx;clear hd;replace hR:=hR.trans hR1;refine JQ ?_;refine' JM;rw[hres2];exact Ju hH1 rfl (JG x') ⟨_,hR,rfl,rfl⟩
theorem JvZ{p:Loc}:Jh (((Qo p).drop (0+1)).take 6)=Jl p.typ/\0+1+6<=(Qo p).length:=by obtain⟨nm,⟨k1,n1,u1,e1,p1,a1⟩,f⟩:=p;exact⟨(K9 (.mk k1 n1 u1 e1 p1 a1)).can,Ba rfl⟩
def JEs:IC:=(.seq (.seq JpR (.block 0 (.seq (.seq JpS (.cond (.tmp 39) (.skip) JpT)) (.cond (.tmp 39) (.seq JpU .ret) (.seq (.seq JpV (.cond (.tmp 45) (.skip) JpW)) (.cond (.tmp 45) (.seq JpX .ret) (.seq Jma (.cond (.tmp 51) (.seq Jmb .ret) (.seq Jmc (.cond (.tmp 56) (.seq (.seq Jmd (.cond (.tmp 62) Jme (.skip))) (.seq Jmf .ret)) (.seq Jmg (.cond (.tmp 73) (.seq Jmh (.seq (.seq Jmi (.cond (.tmp 83) Jmj (.skip))) (.seq Jmk .ret))) (.seq Jml (.cond (.tmp 91) (.seq Jmm .ret) (.seq Jmn (.cond (.tmp 96) (.seq Jmo .ret) (.skip))))))))))))))))) (.seq Jmp (.seq (.seq Jmq (.block 1 (.loop [0,3,4,7,102,103,104] (.seq JhH (.seq (.cond (.tmp 105) (.skip) (.exit 1)) (.seq (.block 2 (.seq JhI (.seq JhJ (.seq JhK (.cond (.tmp 129) JhL (.skip)))))) JhM)))))) (.seq JhN (.seq (.seq JhO (.block 3 (.seq JhP (.cond (.tmp 138) (.seq JhQ (.seq (.seq JhR (.cond (.tmp 157) JhS (.skip))) (.seq JhT .ret))) (.seq JhU (.cond (.tmp 165) (.seq JhV .ret) (.seq JhW (.cond (.tmp 170) (.seq JhX (.seq (.seq JhY (.cond (.tmp 186) JhZ (.skip))) (.seq Jh0 .ret))) (.seq Jh1 (.cond (.tmp 196) (.seq (.seq Jh2 (.cond (.tmp 203) Jh3 (.skip))) (.seq Jh4 .ret)) (.skip))))))))))) (.seq Jh5 .ret))))))
theorem Fw{Q:Prop}(h:Q:=by subst hH1;rw[hre];exact JS JZ ⟨_,hr',rfl,rfl⟩):Q:=h
theorem Fx{Q:Prop}(h:Q:=by show rv.length+_<=_;omega):Q:=h
theorem JsX(L:LibY pr F){cs:List Cls}{U:List (List Nat)}(C:Cst cs U){k:Nat}(hE:ExC pr F cs U k)(hT:TyC pr F cs U k){H H1:List Blk}{z:Blk}{rw rw1:List Nat}{rb nt:Nat}{rt:Jk}{rv:List Loc}{rp:Bool}{rr:List Ty}{rn:Bool}{op n:Jk}{l:List Xp}{ty:List Ty}{a:Int}(T:TbU H nt cs U)(hrb:H[rb]? = some (.cells (JC nt ⟨rt,rv,rp,rr,rn⟩)))(hr:RmOk ⟨rt,rv,rp,rr,rn⟩)
  (hv:rv.length+VY (.mk op n l ty a)<=100000000) (hv2:VY (.mk op n l ty a)<=64800000) (hw:Q7 (.mk op n l ty a)) (hk:VY (.mk op n l ty a)<k+1) (hH1:H1=H++[z]) (hlt:H.length<H1.length) (hR:Rx rw rw1) {res:Er Xp}
  (hres:res=JnZ cs U ⟨rt,rv,rp,rr,rn⟩ op n l ty a ((QH cs U ⟨rt,rv,rp,rr,rn⟩ (if op=[99,97,108,108] then some a else none) l).bind λl'=>YU cs U ⟨rt,rv,rp,rr,rn⟩ op n l' ty a)) :
  At pr F H.length (fin [.cell 4 (some 5)] H.length (λr' S'=>∃ rw',Rx rw rw'/\r'=KR ExA res/\S'=⟨H,rw'⟩)) JEs [] [(0,.ptr rb 0),(3,.ptr (H1.length+0) 0),(4,.ptr H.length 0),(33,.bool false)]
   ⟨hp H1 H.length (.cells (Jb ex0)) [.cells (Jb (.mk op n l ty a))],rw1⟩:=by
 have hm:=L.hm;have hFb:=J1 hH1 hrb;have hvl:=Zf l;have hs1:=V7 L.toLibW 1;have hs2:=V7 L.toLibW 2;have hs5:=V7 L.toLibW 5;have htd:∀ t,TxOk pr F 182 [.agg (Jb (.mk op n l ty a)),.agg (Jl t)] (.agg (Jb (.mk op n l [VD t] a))):=λt=>YK L.toLibW _ _;have good:∀(t:Ty) (e:KC) (M:List Blk) (rw':List Nat),res=.ok (.mk op n l [t] a)->Jj e 4=some (.ptr H.length 0)->Rx rw rw'->fin [.cell 4 (some 5)] H.length (λr' S'=>∃ rw',Rx rw rw'/\r'=KR ExA res/\S'=⟨H,rw'⟩) .ret e ⟨hp H1 H.length (.cells (Jb (.mk op n l [t] a))) M,rw'⟩:=λt e M rw' hre he hr'=>by rw[hre];exact Ju hH1 he (JG (.mk op n l [t] a)) ⟨_,hr',rfl,rfl⟩
 have pan:∀(c:Int×Int) (e:KC) (M:List Blk) (rw':List Nat),res=.error c->Rx rw rw'->fin [.cell 4 (some 5)] H.length (λr' S'=>∃ rw',Rx rw rw'/\r'=KR ExA res/\S'=⟨H,rw'⟩) (.panic (Xs c)) e ⟨hp H1 H.length (.cells (Jb ex0)) M,rw'⟩:=λc e M rw' hre hr'=>Fw
 have T1:=λM=>T.keep (JF hH1 (.cells (Jb ex0)) M);unfold JnZ at hres;unfold JEs;by_cases c1:op=[110,117,109]\/op=[114,101,97,100]
 ·rw[if_pos c1]at hres;have ht:=htd (KL 1);rcases c1 with c |c
  ·subst c;refine' JM;exact good _ _ _ _ hres rfl hR
  ·subst c;refine' JM;exact good _ _ _ _ hres rfl hR
 rw[if_neg c1]at hres;obtain⟨n1,n2⟩:=not_or.1 c1;by_cases c2:op=[116,114,117,101]\/op=[102,97,108,115,101]
 ·rw[if_pos c2]at hres;have ht:=htd (KL 2);rcases c2 with c |c
  ·subst c;refine' JM;exact good _ _ _ _ hres rfl hR
  ·subst c;refine' JM;exact good _ _ _ _ hres rfl hR
 rw[if_neg c2]at hres;obtain⟨n3,n4⟩:=not_or.1 c2;by_cases c3:op=[110,117,108,108]
 ·rw[if_pos c3]at hres;have ht:=htd (KL 5);subst c3;refine' JM;exact good _ _ _ _ hres rfl hR
 rw[if_neg c3]at hres;by_cases c4:op=[116,104,105,115]
 ·rw[if_pos c4]at hres;have ht:=htd (Yr rt);subst c4;by_cases c:rt=[]
  ·rw[if_pos c]at hres;refine' JM;refine KV (Kr L.toLibW _ _ _ _) rfl rfl rfl ?_;exact pan (135,a) _ _ _ hres hR
  ·rw[if_neg c]at hres;refine' JM;exact good _ _ _ _ hres rfl hR
 rw[if_neg c4]at hres;by_cases c5:op=[118,97,114]
 ·rw[if_pos c5]at hres;subst c5;refine' JM;obtain⟨rw2,hR2,hd⟩:=Jjs L.toLibW (hFb _ _) n (rw:=rw1) (by show rv.length<=_;omega);refine Je rfl rfl rfl ?_;refine Ks hd ?_;clear hd;replace hR:=hR.trans hR2;simp only at hres |-;cases hf:ZS n rv with
  | none=>rw[hf]at hres;simp only[Jc3];refine JQ ?_;refine' JM;refine KV (Kr L.toLibW _ _ _ _) rfl rfl rfl ?_;exact pan (130,a) _ _ _ hres hR
  | some v=>rw[hf]at hres;simp only[Jc3];have ht:=htd v.typ;have hrl:=Jb4 v;obtain⟨vn,⟨k1,m1,u1,e1,p1,b1⟩,vf⟩:=v;refine JQ ?_;refine' JM;refine XP rfl rfl ?_;refine Jai ?_ JvZ;refine' JM;exact good _ _ _ _ hres rfl hR
 rw[if_neg c5]at hres;have hvv:KE l<VY (.mk op n l ty a):=by simp only[VY];omega
 have hwx:KP l:=by simp only[Q7]at hw;exact hw.2.1
 by_cases c6:op=[110,101,119]
 ·rw[if_pos c6]at hres;subst c6;refine' JM;obtain⟨rw2,hR2,hd⟩:=JsU L C hE (op:=[110,101,119]) (n:=n) (l:=l) (ty:=ty) (a:=a) (rw:=rw1) (T1 _) (hFb _ _) hr Fx O hwx O;refine Kk hd rfl rfl rfl ?_ ?_
  ·intro c hc;rw[hc]at hres;exact pan c _ _ _ hres (hR.trans hR2)
  intro x' v hvx hc;rw[hc]at hres;change v=.agg (Jb x')at hvx;subst hvx;clear hd;replace hR:=hR.trans hR2;refine JQ ?_;refine' JM;rw[hres];exact Ju hH1 rfl (JG x') ⟨_,hR,rfl,rfl⟩
 rw[if_neg c6]at hres;by_cases c7:op=[108,105,115,116]
 ·rw[if_pos c7]at hres;subst c7;obtain⟨⟨x,y,rfl⟩,⟨t,rfl⟩⟩:(∃ x y,l=[x,y])/\∃ t,ty=[t]:=by
   simp only[Q7,JbM]at hw;rcases hw.1 with h |h |h |h |h |h |h |h |h |h |h
   ·exact absurd h.1 Aj
   ·exact absurd h.1 Aj
   ·exact absurd h.1 Aj
   ·exact absurd h.1 Aj
   ·exact absurd h.1 Aj
   ·exact⟨h.2.1,h.2.2.1⟩
   ·exact absurd h.1 Aj
   ·exact absurd h.1 Aj
   ·exact absurd h.1 Aj
   ·exact absurd h.1 Aj
   ·exact absurd h.1 Aj
  have hws:Q7 x/\Q7 y/\Vg t:=by simp only[Q7,KP,XX]at hw;exact⟨hw.2.1.1,hw.2.1.2.1,(hw.2.2 trivial).1⟩
  have hvs:VY x+VY y+Xg t<VY (.mk [108,105,115,116] n [x,y] [t] a):=by simp only[VY,KE,XI,if_true];omega
  refine' JM;obtain⟨rw2,hR2,hd⟩:=JvW L C hE hT (op:=[108,105,115,116]) (n:=n) (x:=x) (y:=y) (t:=t) (a:=a) (rw:=rw1) (T1 _) (hFb _ _) hr Fx O hws.1 hws.2.1 hws.2.2 O;refine Kk hd rfl rfl rfl ?_ ?_
  ·intro c hc;rw[hc]at hres;exact pan c _ _ _ hres (hR.trans hR2)
  intro x' v hvx hc;rw[hc]at hres;change v=.agg (Jb x')at hvx;subst hvx;clear hd;replace hR:=hR.trans hR2;refine JQ ?_;refine' JM;rw[hres];exact Ju hH1 rfl (JG x') ⟨_,hR,rfl,rfl⟩
 rw[if_neg c7]at hres;have hao:∀ l':List Xp,l'.length=l.length->JEr op l':=by
  intro l' hl';simp only[Q7,JbM]at hw;have h1:∀ x,l=[x]->∃ y,l'=[y]:=λx h=>by rw[h]at hl';exact Cq.1 hl'
  have h2:∀ x y,l=[x,y]->∃ z w,l'=[z,w]:=λx y h=>by
   rw[h]at hl';match l',hl' with
   | [z,w],_=>exact⟨z,w,rfl⟩
  have h3:∀ x m,l=x::m->∃ z w,l'=z::w:=λx m h=>by
   rw[h]at hl';cases l' with
   | nil=>simp at hl'
   | cons z w=>exact⟨z,w,rfl⟩
  refine⟨λh=>?_,λh=>?_,λh=>?_,λh=>?_,λh=>?_⟩
  ·subst h;have:∃ x,l=[x]:=by
    rcases hw.1 with h |h |h |h |h |h |h |h |h |h |h;all_goals first
     | exact absurd h.1 Aj
     | exact h.2.1
     | exact absurd h.1 (by rw[show KO _=_ from rfl];decide)
   obtain⟨x,hx⟩:=this;exact h1 x hx
  ·subst h;have:∃ x m,l=x::m:=by
    rcases hw.1 with h |h |h |h |h |h |h |h |h |h |h;all_goals first
     | exact absurd h.1 Aj
     | exact h.2.1
   obtain⟨x,m,hx⟩:=this;exact h3 x m hx
  ·subst h;have:∃ x y,l=[x,y]:=by
    rcases hw.1 with h |h |h |h |h |h |h |h |h |h |h;all_goals first
     | exact absurd h.1 Aj
     | exact h.2.1
   obtain⟨x,y,hx⟩:=this;exact h2 x y hx
  ·subst h;have:∃ x,l=[x]:=by
    rcases hw.1 with h |h |h |h |h |h |h |h |h |h |h;all_goals first
     | exact absurd h.1 Aj
     | exact h.2.1
   obtain⟨x,hx⟩:=this;exact h1 x hx
  ·have:∃ x y,l=[x,y]:=by
    rcases h with h |h;all_goals
     subst h;rcases hw.1 with h |h |h |h |h |h |h |h |h |h |h;all_goals first
      | exact absurd h.1 Aj
      | exact h.2.1
   obtain⟨x,y,hx⟩:=this;obtain⟨z,w,hz⟩:=h2 x y hx;exact⟨z,w,[],hz⟩
 refine' JM;refine JsW L C hE (ed:=JvX) T hrb hr Fx O hwx O hH1 hlt hR hres ?_;intro done J lv rw3 hdl hdx hlv hR3 hre;exact JvY L C T hrb hH1 hlt hR3 (hao done hdl) (by have:=Zf l;omega) hdx hlv hre
theorem Jv0(L:LibY pr F){cs:List Cls}{U:List (List Nat)}(C:Cst cs U){k:Nat}(hE:ExC pr F cs U k)(hT:TyC pr F cs U k):ExC pr F cs U (k+1):=by
 intro H rw rb nt r x T hrb hr hv hv2 hw hk;have hm:=L.hm;suffices h:Wp pr F 180 [.ptr rb 0,.agg (Jb x)] ⟨H,rw⟩ λr' S'=>∃ rw',Rx rw rw'/\r'=KR ExA (exF cs U r x)/\S'=⟨H,rw'⟩ by obtain⟨r',S',hd,rw',h1,rfl,rfl⟩:=h.det hm;exact⟨rw',h1,hd⟩
 have hR:Rx rw rw:=Rx.rfl;obtain⟨op,n,l,ty,a⟩:=x;obtain⟨rt,rv,rp,rr,rn⟩:=r;have htx:TxOk pr F 219 [.list 1 .full [[.str [99,97,108,108]],[.str [110,101,119]],[.str [108,105,115,116]],[.str [114,101,97,100]],[.str [105,110,100,101,120]],[.str [47]],[.str [37]]],.str op] (.bool (JcW.contains op)):=Jmt L (v:=.list 1 .full (JcW.map Qy)) (l:=JcW) ⟨1,.full,rfl,λ_=>rfl,λh=>EB⟩ Aj op;have hres:=JpK cs U ⟨rt,rv,rp,rr,rn⟩ op n l ty a;generalize exF cs U ⟨rt,rv,rp,rr,rn⟩ (.mk op n l ty a)=res at *;refine Jt hm L.f180.1 L.f180.2 rfl ?_;obtain⟨bd,hbd⟩:∃ bd:IC,bd=(.seq (.seq JpR (.block 0 (.seq (.seq JpS (.cond (.tmp 39) (.skip) JpT)) (.cond (.tmp 39) (.seq JpU .ret) (.seq (.seq JpV (.cond (.tmp 45) (.skip) JpW)) (.cond (.tmp 45) (.seq JpX .ret) (.seq Jma (.cond (.tmp 51) (.seq Jmb .ret) (.seq Jmc (.cond (.tmp 56) (.seq (.seq Jmd (.cond (.tmp 62) Jme (.skip))) (.seq Jmf .ret)) (.seq Jmg (.cond (.tmp 73) (.seq Jmh (.seq (.seq Jmi (.cond (.tmp 83) Jmj (.skip))) (.seq Jmk .ret))) (.seq Jml (.cond (.tmp 91) (.seq Jmm .ret) (.seq Jmn (.cond (.tmp 96) (.seq Jmo .ret) (.skip))))))))))))))))) (.seq Jmp (.seq (.seq Jmq (.block 1 (.loop [0,3,4,7,102,103,104] (.seq JhH (.seq (.cond (.tmp 105) (.skip) (.exit 1)) (.seq (.block 2 (.seq JhI (.seq JhJ (.seq JhK (.cond (.tmp 129) JhL (.skip)))))) JhM)))))) (.seq JhN (.seq (.seq JhO (.block 3 (.seq JhP (.cond (.tmp 138) (.seq JhQ (.seq (.seq JhR (.cond (.tmp 157) JhS (.skip))) (.seq JhT .ret))) (.seq JhU (.cond (.tmp 165) (.seq JhV .ret) (.seq JhW (.cond (.tmp 170) (.seq JhX (.seq (.seq JhY (.cond (.tmp 186) JhZ (.skip))) (.seq Jh0 .ret))) (.seq Jh1 (.cond (.tmp 196) (.seq (.seq Jh2 (.cond (.tmp 203) Jh3 (.skip))) (.seq Jh4 .ret)) (.skip))))))))))) (.seq Jh5 .ret)))))):=⟨_,rfl⟩
 rw[<- hbd];refine Kt hm ?_;unfold Jvv;show At pr F H.length (fin _ H.length _) _ _ _ _;refine Ku hm ?_;intro H1 hH1 hlen hlt;have hFb:=J1 hH1 hrb;have bad:Jf4 rp op=true->∀(e:KC) (M:List Blk) (rw':List Nat),Rx rw rw'->fin [.cell 4 (some 5)] H.length (λr' S'=>∃ rw',Rx rw rw'/\r'=KR ExA res/\S'=⟨H,rw'⟩) (.panic (Xs (138,a))) e ⟨hp H1 H.length (.cells (Jb ex0)) M,rw'⟩:=by intro hb e M rw' hr';rw[if_pos hb]at hres;subst hH1;rw[hres];exact JS JZ ⟨_,hr',rfl,rfl⟩
 have body:∀(rw1:List Nat),Rx rw rw1->Jf4 rp op=false ->
   At pr F H.length (fin [.cell 4 (some 5)] H.length (λr' S'=>∃ rw',Rx rw rw'/\r'=KR ExA res/\S'=⟨H,rw'⟩)) bd [] [(0,.ptr rb 0),(3,.ptr (H1.length+0) 0),(4,.ptr H.length 0),(33,.bool false)]
   ⟨hp H1 H.length (.cells (Jb ex0)) [.cells (Jb (.mk op n l ty a))],rw1⟩:=by
  intro rw1 hR1 hb;rw[if_neg (by rw[hb];exact BO)]at hres;rw[hbd];exact JsX L C hE hT T hrb hr hv hv2 hw hk hH1 hlt hR1 hres
 clear hbd;refine' JM;refine Kj (q:=H.length) rfl rfl (Kh hlt) ?_;cases rp with
 | true=>
  cases hc:JcW.contains op with
  | true=>
   have hbb:Jf4 true op=true:=by unfold Jf4;rw[hc];rfl
   rw[hc]at htx;refine' JM;refine KV (Kr L.toLibW _ _ _ _) rfl rfl rfl ?_;exact bad hbb _ _ _ hR
  | false=>
   have hbb:Jf4 true op=false:=by unfold Jf4;rw[hc];rfl
   rw[hc]at htx;refine' JM;exact body _ hR hbb
 | false=>
  by_cases hi:op=[61,62]
  ·have hbb:Jf4 false op=true:=by unfold Jf4;rw[hi];rfl
   refine' JM;refine KV (Kr L.toLibW _ _ _ _) rfl rfl rfl ?_;exact bad hbb _ _ _ hR
  ·have hbb:Jf4 false op=false:=by unfold Jf4;rw[beq_eq_false_iff_ne.2 hi];rfl
   refine' JM;exact body _ hR hbb
theorem ZV(L:LibY pr F){cs:List Cls}{U:List (List Nat)}(C:Cst cs U):∀ k,ExC pr F cs U k/\TyC pr F cs U k
 | 0=>⟨λ_ _ _ _ _ _ _ _ _ _ _ _ h=>O,λ_ _ _ _ _ _ _ _ _ _ h=>O⟩
 | k+1=>⟨Jv0 L C (ZV L C k).1 (ZV L C k).2,JDb L.toLibW C (ZV L C k).1 (ZV L C k).2⟩
theorem Jju(L:LibY pr F){cs:List Cls}{U:List (List Nat)}(C:Cst cs U){H:List Blk}{rw:List Nat}{rb nt:Nat}{r:Room}{x:Xp}(T:TbU H nt cs U)(hrb:H[rb]? = some (.cells (JC nt r)))(hr:RmOk r)(hv:r.vars.length+VY x<=100000000)(hv2:VY x<=64800000)(hw:Q7 x) :
  ∃ rw',Rx rw rw'/\Det pr F 180 [.ptr rb 0,.agg (Jb x)] ⟨H,rw⟩ (KR ExA (exF cs U r x)) ⟨H,rw'⟩:=(ZV L C (VY x+1)).1 H rw rb nt r x T hrb hr hv hv2 hw O
theorem Jjv(L:LibY pr F){cs:List Cls}{U:List (List Nat)}(C:Cst cs U){H:List Blk}{rw:List Nat}{nt:Nat}{r:Room}{t:Ty}(T:TbU H nt cs U)(hr:RmOk r)(hv:r.vars.length+Xg t<=100000000)(hv2:Xg t<=64800000)(hw:Vg t\/JfH t) :
  ∃ rw',Rx rw rw'/\Det pr F 115 [.agg (JC nt r),.agg (Jl t)] ⟨H,rw⟩ (KR TyA (tyF cs U r t)) ⟨H,rw'⟩:=(ZV L C (Xg t+1)).2 H rw nt r t T hr hv hv2 hw O
theorem YP(L:LibY pr F){cs:List Cls}{U:List (List Nat)}(C:Cst cs U){H:List Blk}{rw:List Nat}{rb nt:Nat}{r:Room}{x:Xp}{t:Ty}(T:TbU H nt cs U)(hrb:H[rb]? = some (.cells (JC nt r)))(hr:RmOk r)(hv:r.vars.length+VY x<=100000000)(hv2:VY x<=64800000)(hw:Q7 x)(ht:Zm t) :
  ∃ rw',Rx rw rw'/\Det pr F 177 [.ptr rb 0,.agg (Jb x),.agg (Jl t)] ⟨H,rw⟩ (KR ExA (QQ cs U r x t)) ⟨H,rw'⟩:=Joe L.toLibW C (ZV L C (VY x+1)).1 T hrb hr hv hv2 hw O ht
theorem JrL(L:LibY pr F){cs:List Cls}{U:List (List Nat)}(C:Cst cs U){H:List Blk}{rw:List Nat}{nt:Nat}{r:Room}{x:Xp}(T:TbU H nt cs U)(hr:RmOk r)(hv:r.vars.length+VY x<=100000000)(hv2:VY x<=64800000)(hw:Q7 x) :
  ∃ rw',Rx rw rw'/\Det pr F 116 [.agg (JC nt r),.agg (Jb x)] ⟨H,rw⟩ (KR ExA (JgW cs U r x)) ⟨H,rw'⟩:=Jof L.toLibW C (ZV L C (VY x+1)).1 T hr hv hv2 hw O
def SmA(s:Sm):AV:=.agg (Jp s)
theorem d_x{t:Ty}(h:DTy t)(hk:V6 t≠0):Zm t:=by
 rcases h.1 with h1 |⟨a,rfl⟩
 ·exact⟨.inl h1,h.2⟩
 ·exact absurd rfl hk
theorem Jf9(kind n:Jk)(ty:List Ty)(exs:List Xp)(x:Xp)(b e:List Sm)(a:Int):Jh (List.take 3 (Jp (.mk kind n ty exs b e a))++[.list 5 .full [Jb x]]++List.drop 4 (Jp (.mk kind n ty exs b e a)))=Jp (.mk kind n ty [x] b e a):=(Kx (.mk kind n ty [x] b e a)).can
theorem Jom(L:LibY pr F){cs:List Cls}{U:List (List Nat)}(C:Cst cs U){H:List Blk}{rw:List Nat}{rb nt:Nat}{r:Room}{kind n:Jk}{ty:List Ty}{exs:List Xp}{b e:List Sm}{a:Int}(T:TbU H nt cs U)(hrb:H[rb]? = some (.cells (JC nt r)))(hr:RmOk r)
  (hv:r.vars.length+KE exs<=100000000) (hv2:KE exs<=64800000) (hx:KP exs) (hle:exs.length<=1) (hrl:r.ret.length<=1) :
  ∃ rw',Rx rw rw'/\Det pr F 187 [.ptr rb 0,.agg (Jp (.mk kind n ty exs b e a))] ⟨H,rw⟩ (KR SmA (Jhi cs U r kind n ty exs b e a)) ⟨H,rw'⟩:=by
 have hm:=L.hm;suffices h:Wp pr F 187 [.ptr rb 0,.agg (Jp (.mk kind n ty exs b e a))] ⟨H,rw⟩ λr' S'=>∃ rw',Rx rw rw'/\r'=KR SmA (Jhi cs U r kind n ty exs b e a)/\S'=⟨H,rw'⟩ by obtain⟨r',S',hd,rw',h1,rfl,rfl⟩:=h.det hm;exact⟨rw',h1,hd⟩
 have hR:Rx rw rw:=Rx.rfl;obtain⟨rt,rv,rp,rr,rn⟩:=r;simp only at hv hrl;generalize hqq:Jhi cs U ⟨rt,rv,rp,rr,rn⟩ kind n ty exs b e a=res at *;refine Jt hm L.f187.1 L.f187.2 rfl ?_;refine Kt hm ?_;unfold JvB;show At pr F H.length (fin _ H.length _) _ _ _ _;refine Ku hm ?_;intro H1 hH1 hlen hlt;have hFb:=J1 hH1 hrb;have pan:∀(c:Int×Int) (e:KC) (bk:Blk) (M:List Blk) (rw':List Nat),res=.error c->Rx rw rw'->fin [.cell 4 (some 7)] H.length (λr' S'=>∃ rw',Rx rw rw'/\r'=KR SmA res/\S'=⟨H,rw'⟩) (.panic (Xs c)) e ⟨hp H1 H.length bk M,rw'⟩:=λc e bk M rw' hre hr'=>Fw
 cases rr with
 | nil=>have h0:(Jo ([]:List Ty)).length=0:=rfl;refine' JM;refine Kj (q:=H.length) rfl rfl (Kh hlt) ?_;refine' JM;refine KV (Kr L.toLibW _ _ _ _) rfl rfl rfl ?_;exact pan (134,a) _ _ _ _ hqq.symm hR
 | cons t ts=>
  have hD:=hr.ret t Ag;have htr:(Jo (t::ts))[0]? = some (Jl t):=rfl;have hln:(Jo (t::ts)).length=(Jo ts).length+1:=rfl;cases exs with
  | nil=>
   obtain⟨k1,n1,u1,e1,p1,a1⟩:=t;by_cases hk:k1=0
   ·subst hk;refine' JM;refine Kj (q:=H.length) rfl rfl (Kh hlt) ?_;refine' JM;rw[<- hqq];exact Ju hH1 rfl (Kx (.mk kind n ty [] b e a)) ⟨_,hR,rfl,rfl⟩
   ·refine' JM;refine Kj (q:=H.length) rfl rfl (Kh hlt) ?_;refine' JM;refine KV (Kr L.toLibW _ _ _ _) rfl rfl rfl ?_;refine pan (131,a) _ _ _ _ ?_ hR;rw[<- hqq];unfold Jhi;have hk2:(k1 == 0)=false:=beq_eq_false_iff_ne.2 hk;simp only[V6,hk2];rfl
  | cons x xs=>
   have hxr:(Ja (x::xs))[0]? = some (Jb x):=rfl;have hxl:(Ja (x::xs)).length=(Ja xs).length+1:=rfl;obtain⟨k1,n1,u1,e1,p1,a1⟩:=t;by_cases hk:k1=0
   ·subst hk;refine' JM;refine Kj (q:=H.length) rfl rfl (Kh hlt) ?_;refine' JM;refine KV (Kr L.toLibW _ _ _ _) rfl rfl rfl ?_;exact pan (131,a) _ _ _ _ hqq.symm hR
   ·refine' JM;refine Kj (q:=H.length) rfl rfl (Kh hlt) ?_;have hX:Zm (.mk k1 n1 u1 e1 p1 a1):=d_x hD hk;have hres:res=(QQ cs U ⟨rt,rv,rp,.mk k1 n1 u1 e1 p1 a1::ts,rn⟩ x (.mk k1 n1 u1 e1 p1 a1)).bind λx'=>.ok (.mk kind n ty [x'] b e a):=by rw[<- hqq];unfold Jhi;have hk2:(k1 == 0)=false:=beq_eq_false_iff_ne.2 hk;simp only[V6,hk2];rfl
    simp only[KE]at hv hv2;simp only[KP]at hx;refine' JM;obtain⟨rw1,hR1,hd⟩:=YP L C (x:=x) (t:=.mk k1 n1 u1 e1 p1 a1) (T.keep (JF hH1 _ _)) (hFb _ _) hr Fx O hx.1 hX (rw:=rw);refine Kk hd rfl rfl rfl ?_ ?_
    ·intro c hc;rw[hc]at hres;exact pan c _ _ _ _ hres (hR.trans hR1)
    intro x' v hvx hc;rw[hc]at hres;change v=.agg (Jb x')at hvx;subst hvx;clear hd;replace hR:=hR.trans hR1;refine JQ ?_;refine' JM;rw[Jf9,hres];exact Ju hH1 rfl (Kx (.mk kind n ty [x'] b e a)) ⟨_,hR,rfl,rfl⟩
def Jcj(H:List Blk)(rb nt:Nat):Er (Sm×Room)->List Blk
 | .ok x=>H.set rb (.cells (JC nt x.2))
 | .error _=>H
def SmR(x:Sm×Room):AV:=.agg (Jp x.1)
theorem Jv1{b0 n kd:Nat}{H M:List Blk}{rw:List Nat}{b:Blk}{vs cs:List AV}{K:St->Prop}(hlt:n<H.length)(hb0:Ai.belowL (n+1) vs=true)(hb:b=.cells cs)(hc:cs.length=kd)(hv:vs.length=kd)(h:K ⟨hp H n (.cells vs) M,rw⟩):StAt b0 kd (.ptr n 0) (.agg vs) ⟨hp H n b M,rw⟩ K:=by refine⟨_,?_,h⟩;unfold JcD;simp only[Kh hlt,hb];rw[if_pos ⟨hv,rfl,O,.inr (by simpa only[Ai.below] using hb0)⟩,Z0,JcH (by rw[hc];exact hv.symm)];rfl
theorem JrM(kind n:Jk)(ty:List Ty)(exs:List Xp)(t:Ty)(x:Xp)(b e:List Sm)(a:Int):Jh (List.take 3 (List.take 2 (Jp (.mk kind n ty exs b e a))++[.list 6 .full [Jl t]]++List.drop 3 (Jp (.mk kind n ty exs b e a)))++[.list 5 .full [Jb x]]++List.drop 4 (List.take 2 (Jp (.mk kind n ty exs b e a))++[.list 6 .full [Jl t]]++List.drop 3 (Jp (.mk kind n ty exs b e a))))=Jp (.mk kind n [t] [x] b e a):=(Kx (.mk kind n [t] [x] b e a)).can
theorem Jjw{H M:List Blk}{n m:Nat}{b:Blk}(h:m<H.length):m<(hp H n b M).length:=Ef
theorem Fy{Q:Prop}(h:Q:=by have:=hs.len;omega):Q:=h
theorem Fz{Q:Prop}(h:Q:=by rw[<- hqq];unfold Jch;rw[hf];rfl):Q:=h
theorem FA{Q:Prop}(h:Q:=by first |exact Jdp hr |exact⟨.inl rfl,(Jdp hr).vars,(Jdp hr).ret⟩):Q:=h
theorem JDc(L:LibY pr F){cs:List Cls}{U:List (List Nat)}(C:Cst cs U){H:List Blk}{rw:List Nat}{rb nt:Nat}{r:Room}{kind n:Jk}{ty:List Ty}{x:Xp}{b e:List Sm}{a:Int}(T:TbU H nt cs U)(hrb:H[rb]? = some (.cells (JC nt r)))(hnr:nt<rb)(hr:RmOk r)
  (hv:r.vars.length+(VY x+XI ty)<=90000000) (hv2:VY x+XI ty<=64800000) (hx:Q7 x) (hty:XX ty) (hle:ty.length<=1) :
  ∃ rw',Rx rw rw'/\Det pr F 184 [.ptr rb 0,.agg (Jp (.mk kind n ty [x] b e a))] ⟨H,rw⟩ (KR SmR (Jch cs U r kind n ty [x] b e a)) ⟨Jcj H rb nt (Jch cs U r kind n ty [x] b e a),rw'⟩:=by
 have hm:=L.hm;suffices h:Wp pr F 184 [.ptr rb 0,.agg (Jp (.mk kind n ty [x] b e a))] ⟨H,rw⟩ λr' S'=>∃ rw',Rx rw rw'/\r'=KR SmR (Jch cs U r kind n ty [x] b e a)/\S'=⟨Jcj H rb nt (Jch cs U r kind n ty [x] b e a),rw'⟩ by obtain⟨r',S',hd,rw',h1,rfl,rfl⟩:=h.det hm;exact⟨rw',h1,hd⟩
 have hR:Rx rw rw:=Rx.rfl;have hlt:rb<H.length:=(Ac.1 hrb).1;have T1:=λM=>T.keep (X6 hrb M);have hl1:=λM=>Kh (L:=M) (b:=.cells (JC nt r)) hlt;have hx0:(Ja [x])[0]? = some (Jb x):=rfl;have hxl:(Ja [x]).length=1:=rfl;generalize hqq:Jch cs U r kind n ty [x] b e a=res at *;refine Kw hm L.f184.1 L.f184.2 rfl (Xi hrb) ?_;have pan:∀(c:Int×Int) (e':KC) (M:List Blk) (rw':List Nat),res=.error c->Rx rw rw'->fin [.cell 4 (some 7)] H.length (λr' S'=>∃ rw',Rx rw rw'/\r'=KR SmR res/\S'=⟨Jcj H rb nt res,rw'⟩) (.panic (Xs c)) e' ⟨hp H rb (.cells (JC nt r)) M,rw'⟩:=λc e' M rw' hre hr'=>by rw[hre];exact JS (JR hlt) ⟨_,hr',rfl,QP hrb⟩
 have end_:∀(s:Sm) (r2:Room) (e':KC) (M:List Blk) (rw':List Nat),res=.ok (s,r2)->Jj e' 4=some (.ptr (H.length+0) 0)->M[0]? = some (.cells (Jp s))->Rx rw rw'->fin [.cell 4 (some 7)] H.length (λr' S'=>∃ rw',Rx rw rw'/\r'=KR SmR res/\S'=⟨Jcj H rb nt res,rw'⟩) .ret e' ⟨hp H rb (.cells (JC nt r2)) M,rw'⟩:=λs r2 e' M rw' hre he hM hr'=>by rw[hre];have hs:=Kx s;refine J0 hlt he hM (v:=.agg (Jp s)) ?_ (hs.below _) ⟨_,hr',rfl,by simp[hp,Jcj]⟩;simp only[J9,Am];rw[if_pos Fy,AA,AB Fy,hs.can]
 refine' JM;obtain⟨rw2,hR2,hd⟩:=Jjs L.toLibW (hl1 _) n (rw:=rw) O;refine Je rfl rfl rfl ?_;refine Ks hd ?_;clear hd;replace hR:=hR.trans hR2;cases hf:ZS n r.vars with
 | some v=>
  simp only[Jc3];have hrl:=Jb4 v;have hre:res=Kz 120 a:=Fz
  obtain⟨vn,⟨k1,m1,u1,e1,p1,b1⟩,vf⟩:=v;refine JQ ?_;refine' JM;refine KV (Kr L.toLibW _ _ _ _) rfl rfl rfl ?_;exact pan (120,a) _ _ _ hre hR
 | none=>
  simp only[Jc3];refine JQ ?_;cases ty with
  | nil=>
   have hre:res=(exF cs U r x).bind λx'=>if V6 (Q4 x')=0\/V6 (Q4 x')=5 then Kz 131 (atX x)else .ok (.mk kind n [] [x'] b e a,Vz r n (Q4 x') false):=Fz
   have h0:(Jo ([]:List Ty)).length=0:=rfl;refine' JM;obtain⟨rw3,hR3,hd⟩:=Jju L C (x:=x) (T1 _) (hl1 _) hr O O hx (rw:=rw2);refine Kk hd rfl rfl rfl ?_ ?_
   ·intro c hc;rw[hc]at hre;exact pan c _ _ _ hre (hR.trans hR3)
   intro x' v hvx hc;rw[hc]at hre;change v=.agg (Jb x')at hvx;subst hvx;clear hd;replace hR:=hR.trans hR3;replace hre:res=if V6 (Q4 x')=0\/V6 (Q4 x')=5 then Kz 131 (atX x)else .ok (.mk kind n [] [x'] b e a,Vz r n (Q4 x') false):=hre
   have hof:=Zp L.toLibW x';have hre1:(V6 (Q4 x')=0\/V6 (Q4 x')=5)->res=Kz 131 (atX x):=λh=>by rw[hre,if_pos h]
   have hre2:¬(V6 (Q4 x')=0\/V6 (Q4 x')=5)->res=.ok (.mk kind n [] [x'] b e a,Vz r n (Q4 x') false):=λh=>by rw[hre,if_neg h]
   clear hre;generalize Q4 x'=t at *;obtain⟨k1,m1,u1,e1,p1,b1⟩:=t;obtain⟨xo,xn,xl,xt,xa⟩:=x;refine JQ ?_;by_cases c1:k1=0
   ·have hre:=hre1 (.inl c1);subst c1;refine' JM;refine KV (Kr L.toLibW _ _ _ _) rfl rfl rfl ?_;exact pan (131,xa) _ _ _ hre hR
   ·by_cases c2:k1=5
    ·have hre:=hre1 (.inr c2);subst c2;refine' JM;refine KV (Kr L.toLibW _ _ _ _) rfl rfl rfl ?_;exact pan (131,xa) _ _ _ hre hR
    ·have hre:=hre2 (λh=>h.elim c1 c2);refine' JM;refine XP rfl rfl ?_;refine JcE (hl1 _) (Xd nt r) rfl ?_;refine' JM;obtain⟨rw4,hR4,hd⟩:=Jc2 L.toLibW (H:=hp H rb (.cells (JC nt r)) [.cells [.str [],.str [],.list 0 .full [],.list 0 .full [],.list 0 .full [],.list 0 .full [],.int .i64 0],.cells (List.take 3 (Jp (.mk kind n [] [.mk xo xn xl xt xa] b e a))++[.list 5 .full [Jb x']]++List.drop 4 (Jp (.mk kind n [] [.mk xo xn xl xt xa] b e a))),.cells (Qo JjY),.cells (Jl (.mk k1 m1 u1 e1 p1 b1)),.cells (Jb x')]) (Jjw (m:=nt) O) rwt r n (.mk k1 m1 u1 e1 p1 b1) false O;refine Je rfl rfl rfl ?_;refine Ks hd ?_;clear hd;replace hR:=hR.trans hR4;refine JQ ?_;refine' JM;refine Vh ?_;refine VG rfl rfl rfl ?_;refine Jv1 hlt (Jbt O _) rfl rfl rfl ?_;refine JQ ?_;refine' JM;rw[Jf9];exact end_ _ _ _ _ _ hre rfl rfl hR
  | cons t ts=>
   have htr:(Jo (t::ts))[0]? = some (Jl t):=rfl;have hln:(Jo (t::ts)).length=(Jo ts).length+1:=rfl;simp only[XI]at hv hv2;simp only[XX]at hty;have hre:res=(Jab (KX cs t)).bind λ_=>(tyF cs U (if r.inNew then{K6 r with this:=[]} else K6 r) t).bind λt'=>(QQ cs U r x t').bind λx'=>.ok (.mk kind n [t'] [x'] b e a,Vz r n t' false):=Fz
   have hkn:=λM=>TbU.known L.toLibW rw2 (T1 M) t O;have hpa:=λM=>TbU.pass L.toLibW rw2 (T1 M) (KX cs t).1 (KX cs t).2;refine' JM;refine Je rfl rfl rfl ?_;refine Ks (hkn _) ?_;refine JQ ?_;refine Kk (hpa _) rfl rfl rfl ?_ ?_
   ·intro c hc;change Jab (KX cs t)=_ at hc;rw[hc]at hre;exact pan c _ _ _ hre hR
   intro u v hvx hc;change Jab (KX cs t)=_ at hc;subst hvx;rw[hc]at hre;replace hre:res=(tyF cs U (if r.inNew then{K6 r with this:=[]} else K6 r) t).bind λt'=>(QQ cs U r x t').bind λx'=>.ok (.mk kind n [t'] [x'] b e a,Vz r n t' false):=hre;clear hkn hpa;refine JQ ?_;refine' JM;refine XP rfl rfl ?_;refine JcE (hl1 _) (Xd nt r) rfl ?_;refine' JM;obtain⟨rw3,hR3,hd⟩:=JvO L.toLibW (H:=hp H rb (.cells (JC nt r)) [.cells [.str [],.str [],.list 0 .full [],.list 0 .full [],.list 0 .full [],.list 0 .full [],.int .i64 0],.cells (Jp (.mk kind n (t::ts) [x] b e a)),.cells (Qo JjY),.cells (Jl (KL 0)),.cells [.nilp,.str [],.list 0 .full [],.bool false,.list 0 .full [],.bool false]]) (Jjw (m:=nt) O) rw2 r O;refine Je rfl rfl rfl ?_;refine Ks hd ?_;clear hd;replace hR:=hR.trans hR3;refine JQ ?_;refine' JM
   ·have hre3:res=(tyF cs U (⟨[],(K6 r).vars,(K6 r).pred,(K6 r).ret,(K6 r).inNew⟩:Room) t).bind λt'=>(QQ cs U r x t').bind λx'=>.ok (.mk kind n [t'] [x'] b e a,Vz r n t' false):=by rw[hre,if_pos Aa]
    change In pr F _ _ _ _ _ _ _ _ ⟨hp H rb (.cells (JC nt r)) [.cells [.str [],.str [],.list 0 .full [],.list 0 .full [],.list 0 .full [],.list 0 .full [],.int .i64 0],.cells (Jp (.mk kind n (t::ts) [x] b e a)),.cells (Qo JjY),.cells (Jl (KL 0)),.cells (JC nt (⟨[],(K6 r).vars,(K6 r).pred,(K6 r).ret,(K6 r).inNew⟩:Room))],rw3⟩;have hrq:RmOk (⟨[],(K6 r).vars,(K6 r).pred,(K6 r).ret,(K6 r).inNew⟩:Room):=FA
    have hvq:(⟨[],(K6 r).vars,(K6 r).pred,(K6 r).ret,(K6 r).inNew⟩:Room).vars.length<=r.vars.length:=Cj _ _;have hcr:Jh (JC nt (⟨[],(K6 r).vars,(K6 r).pred,(K6 r).ret,(K6 r).inNew⟩:Room))=JC nt (⟨[],(K6 r).vars,(K6 r).pred,(K6 r).ret,(K6 r).inNew⟩:Room):=Xd _ _;obtain⟨rw4,hR4,hd⟩:=Jjv L C (t:=t) (T1 _) hrq O O (.inl hty.1) (rw:=rw3);rw[show Jh (List.take 1 (JC nt (K6 r))++[.str []]++List.drop 2 (JC nt (K6 r)))=JC nt (⟨[],(K6 r).vars,(K6 r).pred,(K6 r).ret,(K6 r).inNew⟩:Room) from Xd nt (⟨[],(K6 r).vars,(K6 r).pred,(K6 r).ret,(K6 r).inNew⟩:Room)];refine Kk hd rfl rfl rfl ?_ ?_
    ·intro c hc;rw[hc]at hre3;exact pan c _ _ _ hre3 (hR.trans hR4)
    intro t' v hvx hc;rw[hc]at hre3;change v=.agg (Jl t')at hvx;subst hvx;clear hd;have htw:=C.ty hrq hty.1 O hc;have hTX:Zm t':=⟨.inl htw.1,O⟩
    replace hR:=hR.trans hR4;replace hre3:res=(QQ cs U r x t').bind λx'=>.ok (.mk kind n [t'] [x'] b e a,Vz r n t' false):=hre3;refine JQ ?_;refine' JM;obtain⟨rw5,hR5,hd⟩:=YP L C (x:=x) (t:=t') (T1 _) (hl1 _) hr O O hx hTX (rw:=rw4);refine Kk hd rfl rfl rfl ?_ ?_
    ·intro c hc;rw[hc]at hre3;exact pan c _ _ _ hre3 (hR.trans hR5)
    intro x' v hvx hc;rw[hc]at hre3;change v=.agg (Jb x')at hvx;subst hvx;clear hd;replace hR:=hR.trans hR5;replace hre3:res=.ok (.mk kind n [t'] [x'] b e a,Vz r n t' false):=hre3;refine JQ ?_;refine' JM;refine XP rfl rfl ?_;refine JcE (hl1 _) (Xd nt r) rfl ?_;refine' JM;obtain⟨rw6,hR6,hd⟩:=Jc2 L.toLibW (H:=hp H rb (.cells (JC nt r)) [.cells [.str [],.str [],.list 0 .full [],.list 0 .full [],.list 0 .full [],.list 0 .full [],.int .i64 0],.cells (List.take 3 (List.take 2 (Jp (.mk kind n (t::ts) [x] b e a))++[.list 6 .full [Jl t']]++List.drop 3 (Jp (.mk kind n (t::ts) [x] b e a)))++[.list 5 .full [Jb x']]++List.drop 4 (List.take 2 (Jp (.mk kind n (t::ts) [x] b e a))++[.list 6 .full [Jl t']]++List.drop 3 (Jp (.mk kind n (t::ts) [x] b e a)))),.cells (Qo JjY),.cells (Jl t'),.cells (JC nt (⟨[],(K6 r).vars,(K6 r).pred,(K6 r).ret,(K6 r).inNew⟩:Room))]) (Jjw (m:=nt) O) rw5 r n t' false O;refine Je rfl rfl rfl ?_;refine Ks hd ?_;clear hd;replace hR:=hR.trans hR6;refine JQ ?_;refine' JM;refine Vh ?_;refine VG rfl rfl rfl ?_;refine Jv1 hlt (Jbt O _) rfl rfl rfl ?_;refine JQ ?_;refine' JM;rw[JrM];exact end_ _ _ _ _ _ hre3 rfl rfl hR
   ·have hre3:res=(tyF cs U (K6 r) t).bind λt'=>(QQ cs U r x t').bind λx'=>.ok (.mk kind n [t'] [x'] b e a,Vz r n t' false):=by rw[hre,if_neg (by simp[*])]
    change In pr F _ _ _ _ _ _ _ _ ⟨hp H rb (.cells (JC nt r)) [.cells [.str [],.str [],.list 0 .full [],.list 0 .full [],.list 0 .full [],.list 0 .full [],.int .i64 0],.cells (Jp (.mk kind n (t::ts) [x] b e a)),.cells (Qo JjY),.cells (Jl (KL 0)),.cells (JC nt (K6 r))],rw3⟩;have hrq:RmOk (K6 r):=FA
    have hvq:(K6 r).vars.length<=r.vars.length:=Cj _ _;have hcr:Jh (JC nt (K6 r))=JC nt (K6 r):=Xd _ _;obtain⟨rw4,hR4,hd⟩:=Jjv L C (t:=t) (T1 _) hrq O O (.inl hty.1) (rw:=rw3);rw[Xd];refine Kk hd rfl rfl rfl ?_ ?_
    ·intro c hc;rw[hc]at hre3;exact pan c _ _ _ hre3 (hR.trans hR4)
    intro t' v hvx hc;rw[hc]at hre3;change v=.agg (Jl t')at hvx;subst hvx;clear hd;have htw:=C.ty hrq hty.1 O hc;have hTX:Zm t':=⟨.inl htw.1,O⟩
    replace hR:=hR.trans hR4;replace hre3:res=(QQ cs U r x t').bind λx'=>.ok (.mk kind n [t'] [x'] b e a,Vz r n t' false):=hre3;refine JQ ?_;refine' JM;obtain⟨rw5,hR5,hd⟩:=YP L C (x:=x) (t:=t') (T1 _) (hl1 _) hr O O hx hTX (rw:=rw4);refine Kk hd rfl rfl rfl ?_ ?_
    ·intro c hc;rw[hc]at hre3;exact pan c _ _ _ hre3 (hR.trans hR5)
    intro x' v hvx hc;rw[hc]at hre3;change v=.agg (Jb x')at hvx;subst hvx;clear hd;replace hR:=hR.trans hR5;replace hre3:res=.ok (.mk kind n [t'] [x'] b e a,Vz r n t' false):=hre3;refine JQ ?_;refine' JM;refine XP rfl rfl ?_;refine JcE (hl1 _) (Xd nt r) rfl ?_;refine' JM;obtain⟨rw6,hR6,hd⟩:=Jc2 L.toLibW (H:=hp H rb (.cells (JC nt r)) [.cells [.str [],.str [],.list 0 .full [],.list 0 .full [],.list 0 .full [],.list 0 .full [],.int .i64 0],.cells (List.take 3 (List.take 2 (Jp (.mk kind n (t::ts) [x] b e a))++[.list 6 .full [Jl t']]++List.drop 3 (Jp (.mk kind n (t::ts) [x] b e a)))++[.list 5 .full [Jb x']]++List.drop 4 (List.take 2 (Jp (.mk kind n (t::ts) [x] b e a))++[.list 6 .full [Jl t']]++List.drop 3 (Jp (.mk kind n (t::ts) [x] b e a)))),.cells (Qo JjY),.cells (Jl t'),.cells (JC nt (K6 r))]) (Jjw (m:=nt) O) rw5 r n t' false O;refine Je rfl rfl rfl ?_;refine Ks hd ?_;clear hd;replace hR:=hR.trans hR6;refine JQ ?_;refine' JM;refine Vh ?_;refine VG rfl rfl rfl ?_;refine Jv1 hlt (Jbt O _) rfl rfl rfl ?_;refine JQ ?_;refine' JM;rw[JrM];exact end_ _ _ _ _ _ hre3 rfl rfl hR
theorem JDd(L:LibY pr F){cs:List Cls}{U:List (List Nat)}(C:Cst cs U){H:List Blk}{rw:List Nat}{rb nt:Nat}{r:Room}{n:Jk}{ty:List Ty}{x:Xp}{b e:List Sm}{a:Int}(T:TbU H nt cs U)(hrb:H[rb]? = some (.cells (JC nt r)))(hr:RmOk r)
  (hv:r.vars.length+VY x<=90000000) (hv2:VY x<=64800000) (hx:Q7 x) :
  ∃ rw',Rx rw rw'/\Det pr F 121 [.ptr rb 0,.agg (Jp (.mk [115,101,116] n ty [x] b e a))] ⟨H,rw⟩ (KR SmR (XD cs U r (.mk [115,101,116] n ty [x] b e a))) ⟨H,rw'⟩:=by
 have hm:=L.hm;suffices h:Wp pr F 121 [.ptr rb 0,.agg (Jp (.mk [115,101,116] n ty [x] b e a))] ⟨H,rw⟩ λr' S'=>∃ rw',Rx rw rw'/\r'=KR SmR (XD cs U r (.mk [115,101,116] n ty [x] b e a))/\S'=⟨H,rw'⟩ by obtain⟨r',S',hd,rw',h1,rfl,rfl⟩:=h.det hm;exact⟨rw',h1,hd⟩
 have hR:Rx rw rw:=Rx.rfl;have hx0:(Ja [x])[0]? = some (Jb x):=rfl;have hxl:(Ja [x]).length=1:=rfl;have hres:XD cs U r (.mk [115,101,116] n ty [x] b e a)=match ZS n r.vars with
   | none=>Kz 130 a
   | some v=>if v.fixed then Kz 136 a else(QQ cs U r x v.typ).bind λx'=>.ok (.mk [115,101,116] n ty [x'] b e a,r):=by
  rw[XD];rfl
 generalize XD cs U r (.mk [115,101,116] n ty [x] b e a)=res at *;refine Jt hm L.f121.1 L.f121.2 rfl ?_;refine Kt hm ?_;unfold Ja6;show At pr F H.length (fin _ H.length _) _ _ _ _;refine Ku hm ?_;intro H1 hH1 hlen hlt;have hFb:=J1 hH1 hrb;have pan:∀(c:Int×Int) (e:KC) (bk:Blk) (M:List Blk) (rw':List Nat),res=.error c->Rx rw rw'->fin [.cell 4 (some 7)] H.length (λr' S'=>∃ rw',Rx rw rw'/\r'=KR SmR res/\S'=⟨H,rw'⟩) (.panic (Xs c)) e ⟨hp H1 H.length bk M,rw'⟩:=λc e bk M rw' hre hr'=>Fw
 refine' JM;refine Kj (q:=H.length) rfl rfl (Kh hlt) ?_;refine' JM;obtain⟨rw2,hR2,hd⟩:=Jjs L.toLibW (hFb _ _) n (rw:=rw) O;refine Je rfl rfl rfl ?_;refine Ks hd ?_;clear hd;replace hR:=hR.trans hR2;cases hf:ZS n r.vars with
 | none=>rw[hf]at hres;simp only[Jc3];refine JQ ?_;refine' JM;refine KV (Kr L.toLibW _ _ _ _) rfl rfl rfl ?_;exact pan (130,a) _ _ _ _ hres hR
 | some v=>
  rw[hf]at hres;simp only[Jc3];have hX:=hr.vars v (JkH hf);have hrl:=Jb4 v;obtain⟨vn,⟨k1,m1,u1,e1,p1,b1⟩,vf⟩:=v;replace hres:res=if vf then Kz 136 a else(QQ cs U r x (.mk k1 m1 u1 e1 p1 b1)).bind λx'=>.ok (.mk [115,101,116] n ty [x'] b e a,r):=hres
  refine JQ ?_;cases vf with
  | true=>rw[if_pos rfl]at hres;refine' JM;refine KV (Kr L.toLibW _ _ _ _) rfl rfl rfl ?_;exact pan (136,a) _ _ _ _ hres hR
  | false=>
   rw[if_neg BO]at hres;refine' JM;refine XP rfl rfl ?_;refine Jai ?_ JvZ;refine' JM;obtain⟨rw3,hR3,hd⟩:=YP L C (x:=x) (t:=.mk k1 m1 u1 e1 p1 b1) (T.keep (JF hH1 _ _)) (hFb _ _) hr O O hx hX (rw:=rw2);refine Kk hd rfl rfl rfl ?_ ?_
   ·intro c hc;rw[hc]at hres;exact pan c _ _ _ _ hres (hR.trans hR3)
   intro x' v hvx hc;rw[hc]at hres;change v=.agg (Jb x')at hvx;subst hvx;clear hd;replace hR:=hR.trans hR3;refine JQ ?_;refine' JM;rw[Jf9,hres];exact Ju hH1 rfl (Kx (.mk [115,101,116] n ty [x'] b e a)) ⟨_,hR,rfl,rfl⟩
theorem Row.rows3{n:Nat}{r q p:List AV}(h:Row n r)(h':Row n q)(h2:Row n p):Yx n [.agg r,.agg q,.agg p]=some [r,q,p]:=by simp only[Yx,AV.cells,h.len,J7,h.clo,h'.len,h'.clo,h2.len,h2.clo,AV.okv,h.can,h'.can,h2.can,and_self,if_true,A9]
theorem FT{Q:Prop}(h:Q:=by rw[XD];rfl):Q:=h
theorem JsY(L:LibY pr F){cs:List Cls}{U:List (List Nat)}(C:Cst cs U){H:List Blk}{rw:List Nat}{rb nt:Nat}{r:Room}{n:Jk}{ty:List Ty}{o y:Xp}{b e:List Sm}{a:Int}(T:TbU H nt cs U)(hrb:H[rb]? = some (.cells (JC nt r)))(hr:RmOk r)
  (hv:r.vars.length+(VY o+VY y)<=90000000) (hv2:VY o+VY y<=64800000) (hx:Q7 o) (hy:Q7 y) :
  ∃ rw',Rx rw rw'/\Det pr F 121 [.ptr rb 0,.agg (Jp (.mk [102,105,101,108,100] n ty [o,y] b e a))] ⟨H,rw⟩ (KR SmR (XD cs U r (.mk [102,105,101,108,100] n ty [o,y] b e a))) ⟨H,rw'⟩:=by
 have hm:=L.hm;suffices h:Wp pr F 121 [.ptr rb 0,.agg (Jp (.mk [102,105,101,108,100] n ty [o,y] b e a))] ⟨H,rw⟩ λr' S'=>∃ rw',Rx rw rw'/\r'=KR SmR (XD cs U r (.mk [102,105,101,108,100] n ty [o,y] b e a))/\S'=⟨H,rw'⟩ by obtain⟨r',S',hd,rw',h1,rfl,rfl⟩:=h.det hm;exact⟨rw',h1,hd⟩
 have hR:Rx rw rw:=Rx.rfl;have hx0:(Ja [o,y])[0]? = some (Jb o):=rfl;have hx1:(Ja [o,y])[1]? = some (Jb y):=rfl;have hxl:(Ja [o,y]).length=2:=rfl;have hres:XD cs U r (.mk [102,105,101,108,100] n ty [o,y] b e a)=(exF cs U r o).bind λo'=>(XU cs o' n a).bind λf=>if f.fin then Kz 136 a else(QQ cs U r y f.type).bind λx'=>.ok (.mk [102,105,101,108,100] n ty [o',x'] b e a,r):=FT
 generalize XD cs U r (.mk [102,105,101,108,100] n ty [o,y] b e a)=res at *;refine Jt hm L.f121.1 L.f121.2 rfl ?_;refine Kt hm ?_;unfold Ja6;show At pr F H.length (fin _ H.length _) _ _ _ _;refine Ku hm ?_;intro H1 hH1 hlen hlt;have hFb:=J1 hH1 hrb;have pan:∀(c:Int×Int) (e:KC) (bk:Blk) (M:List Blk) (rw':List Nat),res=.error c->Rx rw rw'->fin [.cell 4 (some 7)] H.length (λr' S'=>∃ rw',Rx rw rw'/\r'=KR SmR res/\S'=⟨H,rw'⟩) (.panic (Xs c)) e ⟨hp H1 H.length bk M,rw'⟩:=λc e bk M rw' hre hr'=>Fw
 refine' JM;refine Kj (q:=H.length) rfl rfl (Kh hlt) ?_;refine' JM;obtain⟨rw2,hR2,hd⟩:=Jju L C (x:=o) (T.keep (JF hH1 _ _)) (hFb _ _) hr O O hx (rw:=rw);refine Kk hd rfl rfl rfl ?_ ?_
 ·intro c hc;rw[hc]at hres;exact pan c _ _ _ _ hres (hR.trans hR2)
 intro o' v hvx hc;rw[hc]at hres;change v=.agg (Jb o')at hvx;subst hvx;clear hd;replace hR:=hR.trans hR2;replace hres:res=(XU cs o' n a).bind λf=>if f.fin then Kz 136 a else(QQ cs U r y f.type).bind λx'=>.ok (.mk [102,105,101,108,100] n ty [o',x'] b e a,r):=hres
 refine JQ ?_;refine' JM;obtain⟨rw3,hR3,hd⟩:=TbU.field_ L.toLibW (T.keep (JF hH1 _ _)) (hFb _ _) o' n a (rw:=rw2);refine Kk hd rfl rfl rfl ?_ ?_
 ·intro c hc;rw[hc]at hres;exact pan c _ _ _ _ hres (hR.trans hR3)
 intro f v hvx hc;rw[hc]at hres;have hX:=JkL C.ok hc;obtain⟨fn,⟨k2,n2,u2,e2,p2,b2⟩,ff,fa⟩:=f;change v=.agg (Jn ⟨fn,.mk k2 n2 u2 e2 p2 b2,ff,fa⟩)at hvx;subst hvx;clear hd;replace hR:=hR.trans hR3;replace hres:res=if ff then Kz 136 a else(QQ cs U r y (.mk k2 n2 u2 e2 p2 b2)).bind λx'=>.ok (.mk [102,105,101,108,100] n ty [o',x'] b e a,r):=hres
 refine JQ ?_;cases ff with
 | true=>rw[if_pos rfl]at hres;refine' JM;refine KV (Kr L.toLibW _ _ _ _) rfl rfl rfl ?_;exact pan (136,a) _ _ _ _ hres hR
 | false=>
  rw[if_neg BO]at hres;refine' JM;obtain⟨rw4,hR4,hd⟩:=YP L C (x:=y) (t:=.mk k2 n2 u2 e2 p2 b2) (T.keep (JF hH1 _ _)) (hFb _ _) hr O O hy hX (rw:=rw3);refine Kk hd rfl rfl rfl ?_ ?_
  ·intro c hc;rw[hc]at hres;exact pan c _ _ _ _ hres (hR.trans hR4)
  intro x' v hvx hc;rw[hc]at hres;change v=.agg (Jb x')at hvx;subst hvx;clear hd;replace hR:=hR.trans hR4;refine JQ ?_;refine' JM;rw[show Jh (List.take 3 (Jp (.mk [102,105,101,108,100] n ty [o,y] b e a))++[.list 5 .full [Jb o',Jb x']]++List.drop 4 (Jp (.mk [102,105,101,108,100] n ty [o,y] b e a)))=Jp (.mk [102,105,101,108,100] n ty [o',x'] b e a) from(Kx (.mk [102,105,101,108,100] n ty [o',x'] b e a)).can,hres];exact Ju hH1 rfl (Kx (.mk [102,105,101,108,100] n ty [o',x'] b e a)) ⟨_,hR,rfl,rfl⟩
theorem Jv2(L:LibY pr F){cs:List Cls}{U:List (List Nat)}(C:Cst cs U){H:List Blk}{rw:List Nat}{rb nt:Nat}{r:Room}{n:Jk}{ty:List Ty}{o i y:Xp}{b e:List Sm}{a:Int}(T:TbU H nt cs U)(hrb:H[rb]? = some (.cells (JC nt r)))(hr:RmOk r)
  (hv:r.vars.length+(VY o+VY i+VY y)<=90000000) (hv2:VY o+VY i+VY y<=64800000) (hx:Q7 o) (hi:Q7 i) (hy:Q7 y) :
  ∃ rw',Rx rw rw'/\Det pr F 121 [.ptr rb 0,.agg (Jp (.mk [101,108,101,109] n ty [o,i,y] b e a))] ⟨H,rw⟩ (KR SmR (XD cs U r (.mk [101,108,101,109] n ty [o,i,y] b e a))) ⟨H,rw'⟩:=by
 have hm:=L.hm;suffices h:Wp pr F 121 [.ptr rb 0,.agg (Jp (.mk [101,108,101,109] n ty [o,i,y] b e a))] ⟨H,rw⟩ λr' S'=>∃ rw',Rx rw rw'/\r'=KR SmR (XD cs U r (.mk [101,108,101,109] n ty [o,i,y] b e a))/\S'=⟨H,rw'⟩ by obtain⟨r',S',hd,rw',h1,rfl,rfl⟩:=h.det hm;exact⟨rw',h1,hd⟩
 have hR:Rx rw rw:=Rx.rfl;have hx0:(Ja [o,i,y])[0]? = some (Jb o):=rfl;have hx1:(Ja [o,i,y])[1]? = some (Jb i):=rfl;have hx2:(Ja [o,i,y])[2]? = some (Jb y):=rfl;have hxl:(Ja [o,i,y]).length=3:=rfl;have hres:XD cs U r (.mk [101,108,101,109] n ty [o,i,y] b e a)=(exF cs U r o).bind λo'=>if V6 (Q4 o')≠4 then Kz 131 a else
   (QQ cs U r i (KL 1)).bind λi'=>(QQ cs U r y ((elT (Q4 o')).headD (KL 0))).bind λy'=>.ok (.mk [101,108,101,109] n ty [o',i',y'] b e a,r):=by
  rw[XD];rfl
 generalize XD cs U r (.mk [101,108,101,109] n ty [o,i,y] b e a)=res at *;refine Jt hm L.f121.1 L.f121.2 rfl ?_;refine Kt hm ?_;unfold Ja6;show At pr F H.length (fin _ H.length _) _ _ _ _;refine Ku hm ?_;intro H1 hH1 hlen hlt;have hFb:=J1 hH1 hrb;have pan:∀(c:Int×Int) (e:KC) (bk:Blk) (M:List Blk) (rw':List Nat),res=.error c->Rx rw rw'->fin [.cell 4 (some 7)] H.length (λr' S'=>∃ rw',Rx rw rw'/\r'=KR SmR res/\S'=⟨H,rw'⟩) (.panic (Xs c)) e ⟨hp H1 H.length bk M,rw'⟩:=λc e bk M rw' hre hr'=>Fw
 have hs1:=V7 L.toLibW 1;refine' JM;refine Kj (q:=H.length) rfl rfl (Kh hlt) ?_;refine' JM;obtain⟨rw2,hR2,hd⟩:=Jju L C (x:=o) (T.keep (JF hH1 _ _)) (hFb _ _) hr O O hx (rw:=rw);refine Kk hd rfl rfl rfl ?_ ?_
 ·intro c hc;rw[hc]at hres;exact pan c _ _ _ _ hres (hR.trans hR2)
 intro o' v hvx hc;rw[hc]at hres;change v=.agg (Jb o')at hvx;subst hvx;clear hd;replace hR:=hR.trans hR2;have hO:=C.of hr hx O hc;have hof:=Zp L.toLibW o';have h1:V6 (Q4 o')≠4->res=Kz 131 a:=λh=>by rw[hres];show(if V6 (Q4 o')≠4 then _ else _)=_;rw[if_pos h]
 have h2:V6 (Q4 o')=4->res=(QQ cs U r i (KL 1)).bind λi'=>(QQ cs U r y ((elT (Q4 o')).headD (KL 0))).bind λy'=>.ok (.mk [101,108,101,109] n ty [o',i',y'] b e a,r):=λh=>by rw[hres];show(if V6 (Q4 o')≠4 then _ else _)=_;rw[if_neg (λh3=>h3 h)]
 clear hres;generalize Q4 o'=t at *;obtain⟨k1,m1,u1,e1,p1,b1⟩:=t;refine JQ ?_;by_cases hk:k1=4
 ·subst hk;have hres:=h2 rfl;obtain⟨t0,rfl⟩:∃ t,e1=[t]:=by
   rcases hO.1 with h |h |h
   ·simp only[Vg]at h;rcases h.1 with h |h |h |h
    ·exact absurd h.1 Aj
    ·exact absurd h.1 Aj
    ·exact absurd h.1 Aj
    ·exact h.2.2
   ·simp[KL]at h
   ·simp[KL]at h
  have hX0:Zm t0:=by
   rcases hO.1 with h |h |h
   ·simp only[Vg,XX]at h;have hw:=hO.2;simp only[Xg,XI]at hw;exact⟨.inl h.2.2.1.1,O⟩
   ·simp[KL]at h
   ·simp[KL]at h
  replace hres:res=(QQ cs U r i (KL 1)).bind λi'=>(QQ cs U r y t0).bind λy'=>.ok (.mk [101,108,101,109] n ty [o',i',y'] b e a,r):=hres;have ht0:(Jo [t0])[0]? = some (Jl t0):=rfl;have hlt1:(Jo [t0]).length=1:=rfl;refine' JM;obtain⟨rw3,hR3,hd⟩:=YP L C (x:=i) (t:=KL 1) (T.keep (JF hH1 _ _)) (hFb _ _) hr O O hi Jjb (rw:=rwt);refine Kk hd rfl rfl rfl ?_ ?_
  ·intro c hc;rw[hc]at hres;exact pan c _ _ _ _ hres (hR.trans hR3)
  intro i' v hvx hc;rw[hc]at hres;change v=.agg (Jb i')at hvx;subst hvx;clear hd;replace hR:=hR.trans hR3;replace hres:res=(QQ cs U r y t0).bind λy'=>.ok (.mk [101,108,101,109] n ty [o',i',y'] b e a,r):=hres;refine JQ ?_;refine' JM;obtain⟨rw4,hR4,hd⟩:=YP L C (x:=y) (t:=t0) (T.keep (JF hH1 _ _)) (hFb _ _) hr O O hy hX0 (rw:=rwt);refine Kk hd rfl rfl rfl ?_ ?_
  ·intro c hc;rw[hc]at hres;exact pan c _ _ _ _ hres (hR.trans hR4)
  intro y' v hvx hc;rw[hc]at hres;change v=.agg (Jb y')at hvx;subst hvx;clear hd;replace hR:=hR.trans hR4;replace hres:res=.ok (.mk [101,108,101,109] n ty [o',i',y'] b e a,r):=hres;refine JQ ?_;refine Qp ?_;refine Q1 rfl (vs:=[.agg (Jb o'),.agg (Jb i'),.agg (Jb y')]) rfl ?_;refine JfJ (Row.rows3 (JG o') (JG i') (JG y')) ?_;refine' JM;rw[show Jh (List.take 3 (Jp (.mk [101,108,101,109] n ty [o,i,y] b e a))++[.list 5 .full [Jb o',Jb i',Jb y']]++List.drop 4 (Jp (.mk [101,108,101,109] n ty [o,i,y] b e a)))=Jp (.mk [101,108,101,109] n ty [o',i',y'] b e a) from(Kx (.mk [101,108,101,109] n ty [o',i',y'] b e a)).can,hres];exact Ju hH1 rfl (Kx (.mk [101,108,101,109] n ty [o',i',y'] b e a)) ⟨_,hR,rfl,rfl⟩
 ·have hres:=h1 hk;refine' JM;refine KV (Kr L.toLibW _ _ _ _) rfl rfl rfl ?_;exact pan (131,a) _ _ _ _ hres hR
theorem Jp4(L:LibY pr F){cs:List Cls}{U:List (List Nat)}(C:Cst cs U){H:List Blk}{rw:List Nat}{rb nt:Nat}{r:Room}{n:Jk}{ty:List Ty}{x:Xp}{b e:List Sm}{a:Int}(T:TbU H nt cs U)(hrb:H[rb]? = some (.cells (JC nt r)))(hr:RmOk r)
  (hv:r.vars.length+VY x<=90000000) (hv2:VY x<=64800000) (hx:Q7 x) :
  ∃ rw',Rx rw rw'/\Det pr F 121 [.ptr rb 0,.agg (Jp (.mk [97,115,115,101,114,116] n ty [x] b e a))] ⟨H,rw⟩ (KR SmR (XD cs U r (.mk [97,115,115,101,114,116] n ty [x] b e a))) ⟨H,rw'⟩:=by
 have hm:=L.hm;suffices h:Wp pr F 121 [.ptr rb 0,.agg (Jp (.mk [97,115,115,101,114,116] n ty [x] b e a))] ⟨H,rw⟩ λr' S'=>∃ rw',Rx rw rw'/\r'=KR SmR (XD cs U r (.mk [97,115,115,101,114,116] n ty [x] b e a))/\S'=⟨H,rw'⟩ by obtain⟨r',S',hd,rw',h1,rfl,rfl⟩:=h.det hm;exact⟨rw',h1,hd⟩
 have hR:Rx rw rw:=Rx.rfl;have hx0:(Ja [x])[0]? = some (Jb x):=rfl;have hxl:(Ja [x]).length=1:=rfl;have hres:XD cs U r (.mk [97,115,115,101,114,116] n ty [x] b e a)=(QQ cs U r x (KL 2)).bind λx'=>.ok (.mk [97,115,115,101,114,116] n ty [x'] b e a,r):=FT
 generalize XD cs U r (.mk [97,115,115,101,114,116] n ty [x] b e a)=res at *;refine Jt hm L.f121.1 L.f121.2 rfl ?_;refine Kt hm ?_;unfold Ja6;show At pr F H.length (fin _ H.length _) _ _ _ _;refine Ku hm ?_;intro H1 hH1 hlen hlt;have hFb:=J1 hH1 hrb;have pan:∀(c:Int×Int) (e:KC) (bk:Blk) (M:List Blk) (rw':List Nat),res=.error c->Rx rw rw'->fin [.cell 4 (some 7)] H.length (λr' S'=>∃ rw',Rx rw rw'/\r'=KR SmR res/\S'=⟨H,rw'⟩) (.panic (Xs c)) e ⟨hp H1 H.length bk M,rw'⟩:=λc e bk M rw' hre hr'=>Fw
 have hs:=V7 L.toLibW 2;refine' JM;refine Kj (q:=H.length) rfl rfl (Kh hlt) ?_;refine' JM;obtain⟨rw2,hR2,hd⟩:=YP L C (x:=x) (t:=KL 2) (T.keep (JF hH1 _ _)) (hFb _ _) hr O O hx Jed (rw:=rwt);refine Kk hd rfl rfl rfl ?_ ?_
 ·intro c hc;rw[hc]at hres;exact pan c _ _ _ _ hres (hR.trans hR2)
 intro x' v hvx hc;rw[hc]at hres;change v=.agg (Jb x')at hvx;subst hvx;clear hd;replace hR:=hR.trans hR2;replace hres:res=.ok (.mk [97,115,115,101,114,116] n ty [x'] b e a,r):=hres;refine JQ ?_;refine' JM;rw[Jf9,hres];exact Ju hH1 rfl (Kx (.mk [97,115,115,101,114,116] n ty [x'] b e a)) ⟨_,hR,rfl,rfl⟩
theorem JsZ(L:LibY pr F){cs:List Cls}{U:List (List Nat)}(C:Cst cs U){H:List Blk}{rw:List Nat}{rb nt:Nat}{r:Room}{n:Jk}{ty:List Ty}{x:Xp}{b e:List Sm}{a:Int}(T:TbU H nt cs U)(hrb:H[rb]? = some (.cells (JC nt r)))(hr:RmOk r)
  (hv:r.vars.length+VY x<=90000000) (hv2:VY x<=64800000) (hx:Q7 x) :
  ∃ rw',Rx rw rw'/\Det pr F 121 [.ptr rb 0,.agg (Jp (.mk [112,114,105,110,116] n ty [x] b e a))] ⟨H,rw⟩ (KR SmR (XD cs U r (.mk [112,114,105,110,116] n ty [x] b e a))) ⟨H,rw'⟩:=by
 have hm:=L.hm;suffices h:Wp pr F 121 [.ptr rb 0,.agg (Jp (.mk [112,114,105,110,116] n ty [x] b e a))] ⟨H,rw⟩ λr' S'=>∃ rw',Rx rw rw'/\r'=KR SmR (XD cs U r (.mk [112,114,105,110,116] n ty [x] b e a))/\S'=⟨H,rw'⟩ by obtain⟨r',S',hd,rw',h1,rfl,rfl⟩:=h.det hm;exact⟨rw',h1,hd⟩
 have hR:Rx rw rw:=Rx.rfl;have hx0:(Ja [x])[0]? = some (Jb x):=rfl;have hxl:(Ja [x]).length=1:=rfl;have hres:XD cs U r (.mk [112,114,105,110,116] n ty [x] b e a)=(QQ cs U r x (KL 1)).bind λx'=>.ok (.mk [112,114,105,110,116] n ty [x'] b e a,r):=FT
 generalize XD cs U r (.mk [112,114,105,110,116] n ty [x] b e a)=res at *;refine Jt hm L.f121.1 L.f121.2 rfl ?_;refine Kt hm ?_;unfold Ja6;show At pr F H.length (fin _ H.length _) _ _ _ _;refine Ku hm ?_;intro H1 hH1 hlen hlt;have hFb:=J1 hH1 hrb;have pan:∀(c:Int×Int) (e:KC) (bk:Blk) (M:List Blk) (rw':List Nat),res=.error c->Rx rw rw'->fin [.cell 4 (some 7)] H.length (λr' S'=>∃ rw',Rx rw rw'/\r'=KR SmR res/\S'=⟨H,rw'⟩) (.panic (Xs c)) e ⟨hp H1 H.length bk M,rw'⟩:=λc e bk M rw' hre hr'=>Fw
 have hs:=V7 L.toLibW 1;refine' JM;refine Kj (q:=H.length) rfl rfl (Kh hlt) ?_;refine' JM;obtain⟨rw2,hR2,hd⟩:=YP L C (x:=x) (t:=KL 1) (T.keep (JF hH1 _ _)) (hFb _ _) hr O O hx Jjb (rw:=rwt);refine Kk hd rfl rfl rfl ?_ ?_
 ·intro c hc;rw[hc]at hres;exact pan c _ _ _ _ hres (hR.trans hR2)
 intro x' v hvx hc;rw[hc]at hres;change v=.agg (Jb x')at hvx;subst hvx;clear hd;replace hR:=hR.trans hR2;replace hres:res=.ok (.mk [112,114,105,110,116] n ty [x'] b e a,r):=hres;refine JQ ?_;refine' JM;rw[Jf9,hres];exact Ju hH1 rfl (Kx (.mk [112,114,105,110,116] n ty [x'] b e a)) ⟨_,hR,rfl,rfl⟩
theorem JRV(L:LibY pr F){cs:List Cls}{U:List (List Nat)}(C:Cst cs U){H:List Blk}{rw:List Nat}{rb nt:Nat}{r:Room}{n:Jk}{ty:List Ty}{x:Xp}{b e:List Sm}{a:Int}(T:TbU H nt cs U)(hrb:H[rb]? = some (.cells (JC nt r)))(hr:RmOk r)
  (hv:r.vars.length+VY x<=90000000) (hv2:VY x<=64800000) (hx:Q7 x) :
  ∃ rw',Rx rw rw'/\Det pr F 121 [.ptr rb 0,.agg (Jp (.mk [100,111] n ty [x] b e a))] ⟨H,rw⟩ (KR SmR (XD cs U r (.mk [100,111] n ty [x] b e a))) ⟨H,rw'⟩:=by
 have hm:=L.hm;suffices h:Wp pr F 121 [.ptr rb 0,.agg (Jp (.mk [100,111] n ty [x] b e a))] ⟨H,rw⟩ λr' S'=>∃ rw',Rx rw rw'/\r'=KR SmR (XD cs U r (.mk [100,111] n ty [x] b e a))/\S'=⟨H,rw'⟩ by obtain⟨r',S',hd,rw',h1,rfl,rfl⟩:=h.det hm;exact⟨rw',h1,hd⟩
 have hR:Rx rw rw:=Rx.rfl;have hx0:(Ja [x])[0]? = some (Jb x):=rfl;have hxl:(Ja [x]).length=1:=rfl;have hres:XD cs U r (.mk [100,111] n ty [x] b e a)=(exF cs U r x).bind λx'=>.ok (.mk [100,111] n ty [x'] b e a,r):=FT
 generalize XD cs U r (.mk [100,111] n ty [x] b e a)=res at *;refine Jt hm L.f121.1 L.f121.2 rfl ?_;refine Kt hm ?_;unfold Ja6;show At pr F H.length (fin _ H.length _) _ _ _ _;refine Ku hm ?_;intro H1 hH1 hlen hlt;have hFb:=J1 hH1 hrb;have pan:∀(c:Int×Int) (e:KC) (bk:Blk) (M:List Blk) (rw':List Nat),res=.error c->Rx rw rw'->fin [.cell 4 (some 7)] H.length (λr' S'=>∃ rw',Rx rw rw'/\r'=KR SmR res/\S'=⟨H,rw'⟩) (.panic (Xs c)) e ⟨hp H1 H.length bk M,rw'⟩:=λc e bk M rw' hre hr'=>Fw
 refine' JM;refine Kj (q:=H.length) rfl rfl (Kh hlt) ?_;refine' JM;obtain⟨rw2,hR2,hd⟩:=Jju L C (x:=x) (T.keep (JF hH1 _ _)) (hFb _ _) hr O O hx (rw:=rw);refine Kk hd rfl rfl rfl ?_ ?_
 ·intro c hc;rw[hc]at hres;exact pan c _ _ _ _ hres (hR.trans hR2)
 intro x' v hvx hc;rw[hc]at hres;change v=.agg (Jb x')at hvx;subst hvx;clear hd;replace hR:=hR.trans hR2;replace hres:res=.ok (.mk [100,111] n ty [x'] b e a,r):=hres;refine JQ ?_;refine' JM;rw[Jf9,hres];exact Ju hH1 rfl (Kx (.mk [100,111] n ty [x'] b e a)) ⟨_,hR,rfl,rfl⟩
def BlC(pr:Jz)(F:Nat->Option IFn)(cs:List Cls)(U:List (List Nat))(l:List Sm):Prop:=∀(H:List Blk) (rw:List Nat) (rb nt:Nat) (r:Room),TbU H nt cs U->H[rb]? = some (.cells (JC nt r))->RmOk r->r.vars.length+Qj l<=90000000->Qj l<=64800000->r.ret.length<=1 ->
 ∃(v:AV) (rw':List Nat),(∀ l',blF cs U r l=.ok l'->IsL 7 v (Jg l'))/\Rx rw rw'/\Det pr F 78 [.ptr rb 0,Kp 7 (Jg l)] ⟨H,rw⟩ (KR (λ_=>v) (blF cs U r l)) ⟨H,rw'⟩
theorem JRW(L:LibY pr F){cs:List Cls}{U:List (List Nat)}(C:Cst cs U){H:List Blk}{rw:List Nat}{rb nt:Nat}{r:Room}{n:Jk}{ty:List Ty}{x:Xp}{b e:List Sm}{a:Int}(T:TbU H nt cs U)(hrb:H[rb]? = some (.cells (JC nt r)))(hr:RmOk r)
  (hv:r.vars.length+VY x<=90000000) (hv2:VY x<=64800000) (hx:Q7 x) (hB:BlC pr F cs U b) (hBe:BlC pr F cs U e) (hrl:r.ret.length<=1) (hvb:r.vars.length+Qj b<=90000000) (hve:r.vars.length+Qj e<=90000000) (hwb:Qj b<=64800000) (hwe:Qj e<=64800000) :
  ∃ rw',Rx rw rw'/\Det pr F 121 [.ptr rb 0,.agg (Jp (.mk [105,102] n ty [x] b e a))] ⟨H,rw⟩ (KR SmR (XD cs U r (.mk [105,102] n ty [x] b e a))) ⟨H,rw'⟩:=by
 have hm:=L.hm;suffices h:Wp pr F 121 [.ptr rb 0,.agg (Jp (.mk [105,102] n ty [x] b e a))] ⟨H,rw⟩ λr' S'=>∃ rw',Rx rw rw'/\r'=KR SmR (XD cs U r (.mk [105,102] n ty [x] b e a))/\S'=⟨H,rw'⟩ by obtain⟨r',S',hd,rw',h1,rfl,rfl⟩:=h.det hm;exact⟨rw',h1,hd⟩
 have hR:Rx rw rw:=Rx.rfl;have hx0:(Ja [x])[0]? = some (Jb x):=rfl;have hxl:(Ja [x]).length=1:=rfl;have hres:XD cs U r (.mk [105,102] n ty [x] b e a)=(QQ cs U r x (KL 2)).bind λx'=>(blF cs U r b).bind λb'=>(blF cs U r e).bind λe'=>.ok (.mk [105,102] n ty [x'] b' e' a,r):=FT
 generalize XD cs U r (.mk [105,102] n ty [x] b e a)=res at *;refine Jt hm L.f121.1 L.f121.2 rfl ?_;refine Kt hm ?_;unfold Ja6;show At pr F H.length (fin _ H.length _) _ _ _ _;refine Ku hm ?_;intro H1 hH1 hlen hlt;have hFb:=J1 hH1 hrb;have pan:∀(c:Int×Int) (e:KC) (bk:Blk) (M:List Blk) (rw':List Nat),res=.error c->Rx rw rw'->fin [.cell 4 (some 7)] H.length (λr' S'=>∃ rw',Rx rw rw'/\r'=KR SmR res/\S'=⟨H,rw'⟩) (.panic (Xs c)) e ⟨hp H1 H.length bk M,rw'⟩:=λc e bk M rw' hre hr'=>Fw
 have hs:=V7 L.toLibW 2;refine' JM;refine Kj (q:=H.length) rfl rfl (Kh hlt) ?_;refine' JM;obtain⟨rw2,hR2,hd⟩:=YP L C (x:=x) (t:=KL 2) (T.keep (JF hH1 _ _)) (hFb _ _) hr O O hx Jed (rw:=rwt);refine Kk hd rfl rfl rfl ?_ ?_
 ·intro c hc;rw[hc]at hres;exact pan c _ _ _ _ hres (hR.trans hR2)
 intro x' v hvx hc;rw[hc]at hres;change v=.agg (Jb x')at hvx;subst hvx;clear hd;replace hR:=hR.trans hR2;replace hres:res=(blF cs U r b).bind λb'=>(blF cs U r e).bind λe'=>.ok (.mk [105,102] n ty [x'] b' e' a,r):=hres;refine JQ ?_;refine' JM;obtain⟨v1,rw3,hi1,hR3,hd⟩:=hB _ rw2 rb nt r (T.keep (JF hH1 _ _)) (hFb _ _) hr hvb hwb hrl;refine Kk hd rfl rfl rfl ?_ ?_
 ·intro c hc;rw[hc]at hres;exact pan c _ _ _ _ hres (hR.trans hR3)
 intro b' v hvx hc;subst hvx;rw[hc]at hres;replace hi1:=hi1 b' hc;clear hd;replace hR:=hR.trans hR3;replace hres:res=(blF cs U r e).bind λe'=>.ok (.mk [105,102] n ty [x'] b' e' a,r):=hres;have hcn1:=hi1.canon;obtain⟨s1,t1,rfl,-,-⟩:=hi1.ex;refine JQ ?_;refine' JM;obtain⟨v2,rw4,hi2,hR4,hd⟩:=hBe _ rw3 rb nt r (T.keep (JF hH1 _ _)) (hFb _ _) hr hve hwe hrl;refine Kk hd rfl rfl rfl ?_ ?_
 ·intro c hc;rw[hc]at hres;exact pan c _ _ _ _ hres (hR.trans hR4)
 intro e' v hvx hc;subst hvx;rw[hc]at hres;replace hi2:=hi2 e' hc;clear hd;replace hR:=hR.trans hR4;replace hres:res=.ok (.mk [105,102] n ty [x'] b' e' a,r):=hres;have hcn2:=hi2.canon;obtain⟨s2,t2,rfl,-,-⟩:=hi2.ex;refine JQ ?_;refine' JM;have hcc:Jh [.str [105,102],.str n,Kp 6 (Jo ty),.list 5 .full [Jb x'],.list s1 t1 (Jg b'),.list s2 t2 (Jg e'),.int .i64 a]=Jp (.mk [105,102] n ty [x'] b' e' a):=by simp only[Jh,Ap,AC,hcn1,hcn2,Jq,Jp];rfl
 change fin _ _ _ _ _ ⟨hp H1 H.length (.cells (Jh [.str [105,102],.str n,Kp 6 (Jo ty),.list 5 .full [Jb x'],.list s1 t1 (Jg b'),.list s2 t2 (Jg e'),.int .i64 a])) _,_⟩;rw[hcc,hres];exact Ju hH1 rfl (Kx (.mk [105,102] n ty [x'] b' e' a)) ⟨_,hR,rfl,rfl⟩
theorem Js0(L:LibY pr F){cs:List Cls}{U:List (List Nat)}(C:Cst cs U){H:List Blk}{rw:List Nat}{rb nt:Nat}{r:Room}{n:Jk}{ty:List Ty}{x:Xp}{l:List Xp}{b e:List Sm}{a:Int}(T:TbU H nt cs U)(hrb:H[rb]? = some (.cells (JC nt r)))(hr:RmOk r)
  (hv:r.vars.length+(VY x+KE l)<=90000000) (hv2:VY x+KE l<=64800000) (hx:Q7 x) (hxl2:KP l) (hB:BlC pr F cs U b) (hrl:r.ret.length<=1) (hvb:r.vars.length+Qj b<=90000000) (hwb:Qj b<=64800000) :
  ∃ rw',Rx rw rw'/\Det pr F 121 [.ptr rb 0,.agg (Jp (.mk [119,104,105,108,101] n ty (x::l) b e a))] ⟨H,rw⟩ (KR SmR (XD cs U r (.mk [119,104,105,108,101] n ty (x::l) b e a))) ⟨H,rw'⟩:=by
 have hm:=L.hm;suffices h:Wp pr F 121 [.ptr rb 0,.agg (Jp (.mk [119,104,105,108,101] n ty (x::l) b e a))] ⟨H,rw⟩ λr' S'=>∃ rw',Rx rw rw'/\r'=KR SmR (XD cs U r (.mk [119,104,105,108,101] n ty (x::l) b e a))/\S'=⟨H,rw'⟩ by obtain⟨r',S',hd,rw',h1,rfl,rfl⟩:=h.det hm;exact⟨rw',h1,hd⟩
 have hR:Rx rw rw:=Rx.rfl;have hx0:(Ja (x::l))[0]? = some (Jb x):=rfl;have hxl:(Ja (x::l)).length=(Ja l).length+1:=rfl;have hres:XD cs U r (.mk [119,104,105,108,101] n ty (x::l) b e a)=(QQ cs U r x (KL 2)).bind λx'=>(Qg cs U r l).bind λl'=>(blF cs U r b).bind λb'=>.ok (.mk [119,104,105,108,101] n ty (x'::l') b' e a,r):=FT
 generalize XD cs U r (.mk [119,104,105,108,101] n ty (x::l) b e a)=res at *;refine Jt hm L.f121.1 L.f121.2 rfl ?_;refine Kt hm ?_;unfold Ja6;show At pr F H.length (fin _ H.length _) _ _ _ _;refine Ku hm ?_;intro H1 hH1 hlen hlt;have hFb:=J1 hH1 hrb;have pan:∀(c:Int×Int) (e:KC) (bk:Blk) (M:List Blk) (rw':List Nat),res=.error c->Rx rw rw'->fin [.cell 4 (some 7)] H.length (λr' S'=>∃ rw',Rx rw rw'/\r'=KR SmR res/\S'=⟨H,rw'⟩) (.panic (Xs c)) e ⟨hp H1 H.length bk M,rw'⟩:=λc e bk M rw' hre hr'=>Fw
 have hs:=V7 L.toLibW 2;have hel2:=JV l;have hvl:=Zf l;refine' JM;refine Kj (q:=H.length) rfl rfl (Kh hlt) ?_;refine' JM;obtain⟨rw2,hR2,hd⟩:=YP L C (x:=x) (t:=KL 2) (T.keep (JF hH1 _ _)) (hFb _ _) hr O O hx Jed (rw:=rwt);refine Kk hd rfl rfl rfl ?_ ?_
 ·intro c hc;rw[hc]at hres;exact pan c _ _ _ _ hres (hR.trans hR2)
 intro x' v hvx hc;rw[hc]at hres;change v=.agg (Jb x')at hvx;subst hvx;clear hd;replace hR:=hR.trans hR2;replace hres:res=(Qg cs U r l).bind λl'=>(blF cs U r b).bind λb'=>.ok (.mk [119,104,105,108,101] n ty (x'::l') b' e a,r):=hres;refine JQ ?_;refine' JM;refine g_q rfl Jg9 ?_;refine' JM;refine JB hm (λmm e' S'=>∃(q:Nat) (done:List Xp) (J:List Blk) (lv:AV) (rw3:List Nat),S'=⟨hp H1 H.length (.cells (Jp (.mk [] [] [] [] [] [] 0))) (.cells (Jp (.mk [119,104,105,108,101] n ty (x::l) b e a))::J),rw3⟩/\q<=l.length/\done.length=q/\Lst rw2 5 lv (Ja (x'::done)) rw3/\Rx rw2 rw3 /\
   res=((Qg cs U r (l.drop q)).bind λm=>(blF cs U r b).bind λb'=>.ok (.mk [119,104,105,108,101] n ty (x'::(done++m)) b' e a,r))/\mm=l.length-q /\
   e'=[(0,.ptr rb 0),(3,.ptr (H1.length+0) 0),(4,.ptr H.length 0),(11,lv),(159,.list 5 .dead (Ja l)),(160,.int .i64 ((Ja l).length:Int)),(161,.int .i64 q)]) ?_ (m:=l.length) ⟨0,[],_,_,rw2,rfl,O,rfl,Lst.lit Cl,Rx.rfl,hres,rfl,rfl⟩
 clear hres;rintro mm e' S' ⟨q,done,J,lv,rw3,rfl,hq0,hdl,hl,hR3,hod,rfl,rfl⟩;have hdp:(Ja (x'::done)).length=done.length+1:=by rw[JV];rfl
 by_cases hq:q<l.length
 ·obtain⟨y,hy⟩:∃ y,l[q]? = some y:=⟨_,Ab hq⟩
  have hyr:(Ja l)[q]? = some (Jb y):=by rw[KB,Ax,hy];rfl
  rw[Jel hy]at hod;have hym:=Aq hy;have hyw:=ZJ hxl2 hym;have hyv:=JaI hym;have hR0:=hR;clear hR;have hR:Rx rw3 rw3:=Rx.rfl;refine' JM;rw[Xd];obtain⟨rw4,hR4,hd⟩:=JrL L C (x:=y) (T.keep (JF hH1 _ _)) hr O O hyw (rw:=rw3);refine Kk hd rfl rfl rfl ?_ ?_
  ·intro c hc;rw[hc]at hod;exact KM (pan c _ _ _ _ hod ((hR0.trans hR3).trans hR4))
  intro y' v hvx hc;change v=.agg (Jb y')at hvx;subst hvx;rw[hc]at hod;clear hd;replace hl:=hl.ext hR4;replace hR3:=hR3.trans hR4;refine JQ ?_;refine Qp ?_;refine Q1 rfl (vs:=[.agg (Jb y')]) rfl ?_;refine Z2 (JG y') ?_;refine' JM;refine JT ?_;refine JW rfl rfl rfl ?_;refine QB hl hR3 AH AH O ?_;intro l4 rw7 hl4 hR7;refine JQ ?_;refine' JM;refine⟨l.length-(q+1),O,q+1,done++[y'],_,l4,rw7,rfl,O,Fu,?_,hR7,?_,rfl,rfl⟩
  ·have he:Ja (x'::(done++[y']))=Ja (x'::done)++[Jb y']:=by simp only[KB,Ap,An,AC,Aw]
   rw[he];exact hl4
  ·rw[hod];show((Qg cs U r (l.drop (q+1))).bind λl'=>.ok (y'::l')).bind _=_;cases Qg cs U r (l.drop (q+1)) <;> simp[Except.bind]
 ·rw[AU O,Qg]at hod;replace hod:res=(blF cs U r b).bind λb'=>.ok (.mk [119,104,105,108,101] n ty (x'::(done++[])) b' e a,r):=hod;rw[Ar]at hod;have hcn:=hl.isL.canon;obtain⟨s4,t4,rfl,-,-⟩:=hl.isL.ex;replace hR:=hR.trans hR3;refine' JM;obtain⟨v1,rw4,hi1,hR4,hd⟩:=hB _ rw3 rb nt r (T.keep (JF hH1 _ _)) (hFb _ _) hr hvb hwb hrl;refine Kk hd rfl rfl rfl ?_ ?_
  ·intro c hc;rw[hc]at hod;exact pan c _ _ _ _ hod (hR.trans hR4)
  intro b' v hvx hc;subst hvx;rw[hc]at hod;replace hi1:=hi1 b' hc;clear hd;replace hR:=hR.trans hR4;replace hod:res=.ok (.mk [119,104,105,108,101] n ty (x'::done) b' e a,r):=hod;have hcn1:=hi1.canon;obtain⟨s1,t1,rfl,-,-⟩:=hi1.ex;refine JQ ?_;refine' JM;have hcc:Jh [.str [119,104,105,108,101],.str n,Kp 6 (Jo ty),.list s4 t4 (Ja (x'::done)),.list s1 t1 (Jg b'),Kp 7 (Jg e),.int .i64 a]=Jp (.mk [119,104,105,108,101] n ty (x'::done) b' e a):=by simp only[Jh,Ap,AC,hcn1,hcn,Jq,Jp];rfl
  change fin _ _ _ _ _ ⟨hp H1 H.length (.cells (Jh [.str [119,104,105,108,101],.str n,Kp 6 (Jo ty),.list s4 t4 (Ja (x'::done)),.list s1 t1 (Jg b'),Kp 7 (Jg e),.int .i64 a])) _,_⟩;rw[hcc,hod];exact Ju hH1 rfl (Kx (.mk [119,104,105,108,101] n ty (x'::done) b' e a)) ⟨_,hR,rfl,rfl⟩
theorem JDe(L:LibY pr F){cs:List Cls}{U:List (List Nat)}(C:Cst cs U){H:List Blk}{rw:List Nat}{rb nt:Nat}{r:Room}{n:Jk}{ty:List Ty}{x:Xp}{b e:List Sm}{a:Int}(T:TbU H nt cs U)(hrb:H[rb]? = some (.cells (JC nt r)))(hnr:nt<rb)(hr:RmOk r)
  (hv:r.vars.length+(VY x+XI ty)<=90000000) (hv2:VY x+XI ty<=64800000) (hx:Q7 x) (hty:XX ty) (hle:ty.length<=1) :
  ∃ rw',Rx rw rw'/\Det pr F 121 [.ptr rb 0,.agg (Jp (.mk [108,101,116] n ty [x] b e a))] ⟨H,rw⟩ (KR SmR (XD cs U r (.mk [108,101,116] n ty [x] b e a))) ⟨Jcj H rb nt (XD cs U r (.mk [108,101,116] n ty [x] b e a)),rw'⟩:=by
 have hm:=L.hm;suffices h:Wp pr F 121 [.ptr rb 0,.agg (Jp (.mk [108,101,116] n ty [x] b e a))] ⟨H,rw⟩ λr' S'=>∃ rw',Rx rw rw'/\r'=KR SmR (XD cs U r (.mk [108,101,116] n ty [x] b e a))/\S'=⟨Jcj H rb nt (XD cs U r (.mk [108,101,116] n ty [x] b e a)),rw'⟩ by obtain⟨r',S',hd,rw',h1,rfl,rfl⟩:=h.det hm;exact⟨rw',h1,hd⟩
 have hR:Rx rw rw:=Rx.rfl;have hlt:rb<H.length:=(Ac.1 hrb).1;have hres:XD cs U r (.mk [108,101,116] n ty [x] b e a)=Jch cs U r [108,101,116] n ty [x] b e a:=FT
 rw[hres];have hdl:=λM=>JDc L C (kind:=[108,101,116]) (n:=n) (ty:=ty) (x:=x) (b:=b) (e:=e) (a:=a) (rw:=rw) (T.keep (X6 hrb M)) (Kh (L:=M) (b:=.cells (JC nt r)) hlt) hnr hr hv hv2 hx hty hle;generalize Jch cs U r [108,101,116] n ty [x] b e a=res at *;refine Kw hm L.f121.1 L.f121.2 rfl (Xi hrb) ?_;refine' JM;obtain⟨rw2,hR2,hd⟩:=hdl [.cells [.str [],.str [],.list 0 .full [],.list 0 .full [],.list 0 .full [],.list 0 .full [],.int .i64 0],.cells (Jp (.mk [108,101,116] n ty [x] b e a))];replace hR:=hR.trans hR2;cases res with
 | error c=>refine KV hd rfl rfl rfl ?_;exact JS (JR hlt) ⟨_,hR,rfl,QP hrb⟩
 | ok y=>obtain⟨s,r2⟩:=y;have hs:=Kx s;refine Je rfl rfl rfl ?_;refine Ks hd ?_;simp only[Jcj,Z0,SmR];clear hd hdl;refine JQ ?_;refine' JM;refine J0 hlt rfl rfl (v:=.agg (Jp s)) ?_ (hs.below _) ⟨_,hR,rfl,CO⟩;simp only[J9,Am];rw[if_pos Fy,AA,AB Fy,hs.can]
theorem Jp5(L:LibY pr F){cs:List Cls}{U:List (List Nat)}(C:Cst cs U){H:List Blk}{rw:List Nat}{rb nt:Nat}{r:Room}{n:Jk}{ty:List Ty}{exs:List Xp}{b e:List Sm}{a:Int}(T:TbU H nt cs U)(hrb:H[rb]? = some (.cells (JC nt r)))(hr:RmOk r)
  (hv:r.vars.length+KE exs<=90000000) (hv2:KE exs<=64800000) (hx:KP exs) (hle:exs.length<=1) (hrl:r.ret.length<=1) :
  ∃ rw',Rx rw rw'/\Det pr F 121 [.ptr rb 0,.agg (Jp (.mk [114,101,116,117,114,110] n ty exs b e a))] ⟨H,rw⟩ (KR SmR (XD cs U r (.mk [114,101,116,117,114,110] n ty exs b e a))) ⟨H,rw'⟩:=by
 have hm:=L.hm;suffices h:Wp pr F 121 [.ptr rb 0,.agg (Jp (.mk [114,101,116,117,114,110] n ty exs b e a))] ⟨H,rw⟩ λr' S'=>∃ rw',Rx rw rw'/\r'=KR SmR (XD cs U r (.mk [114,101,116,117,114,110] n ty exs b e a))/\S'=⟨H,rw'⟩ by obtain⟨r',S',hd,rw',h1,rfl,rfl⟩:=h.det hm;exact⟨rw',h1,hd⟩
 have hR:Rx rw rw:=Rx.rfl;have hres:XD cs U r (.mk [114,101,116,117,114,110] n ty exs b e a)=(Jhi cs U r [114,101,116,117,114,110] n ty exs b e a).bind λs=>.ok (s,r):=FT
 generalize XD cs U r (.mk [114,101,116,117,114,110] n ty exs b e a)=res at *;refine Jt hm L.f121.1 L.f121.2 rfl ?_;refine Kt hm ?_;unfold Ja6;show At pr F H.length (fin _ H.length _) _ _ _ _;refine Ku hm ?_;intro H1 hH1 hlen hlt;have hFb:=J1 hH1 hrb;refine' JM;refine Kj (q:=H.length) rfl rfl (Kh hlt) ?_;refine' JM;obtain⟨rw2,hR2,hd⟩:=Jom L C (kind:=[114,101,116,117,114,110]) (n:=n) (ty:=ty) (exs:=exs) (b:=b) (e:=e) (a:=a) (rw:=rw) (T.keep (JF hH1 _ _)) (hFb _ _) hr O hv2 hx hle hrl;refine Kk hd rfl rfl rfl ?_ ?_
 ·intro c hc;rw[hc]at hres;subst hH1;rw[hres];exact JS JZ ⟨_,hR.trans hR2,rfl,rfl⟩
 intro s v hvx hc;change v=.agg (Jp s)at hvx;subst hvx;rw[hc]at hres;clear hd;replace hR:=hR.trans hR2;replace hres:res=.ok (s,r):=hres;refine JQ ?_;refine' JM;rw[hres];exact Ju hH1 rfl (Kx s) ⟨_,hR,rfl,rfl⟩
def StC(pr:Jz)(F:Nat->Option IFn)(cs:List Cls)(U:List (List Nat))(s:Sm):Prop:=∀(H:List Blk) (rw:List Nat) (rb nt:Nat) (r:Room),TbU H nt cs U->H[rb]? = some (.cells (JC nt r))->nt<rb->RmOk r->r.vars.length+wSm s<=90000000->wSm s<=64800000->r.ret.length<=1 ->
 (∀ x,XD cs U r s=.ok x->RmOk x.2/\x.2.vars.length<=r.vars.length+1/\x.2.ret=r.ret) /\
 ∃ rw',Rx rw rw'/\Det pr F 121 [.ptr rb 0,.agg (Jp s)] ⟨H,rw⟩ (KR SmR (XD cs U r s)) ⟨Jcj H rb nt (XD cs U r s),rw'⟩
theorem JDf{cs:List Cls}{U:List (List Nat)}{r:Room}{l:List Sm}{q:Nat}{t:Sm}(h:l[q]? = some t):blF cs U r (l.drop q)=(XD cs U r t).bind λx=>(blF cs U x.2 (l.drop (q+1))).bind λl'=>.ok (x.1::l'):=by obtain⟨hl,he⟩:=Ac.1 h;rw[AY hl,he,blF]
theorem TbU.at{H:List Blk}{nt:Nat}{cs:List Cls}{U:List (List Nat)}(T:TbU H nt cs U):∃ b,H[nt]? = some b:=by obtain⟨mb,z,zb,tg,tb,o1,o2,o3,sl,h1,h2⟩:=T;exact⟨_,h1.at_⟩
theorem JkT{l:List Sm}{q:Nat}{t:Sm}(h:l[q]? = some t):Qj (l.drop q)=wSm t+Qj (l.drop (q+1)):=by obtain⟨hl,he⟩:=Ac.1 h;rw[AY hl,he,Qj]
theorem Jjx:∀{l:List Sm} {t:Sm},t∈l->wSm t<=Qj l
 | u::l,t,hm=>by
  simp only[Qj];rcases AS.1 hm with rfl |hm
  ·omega
  ·have:=Jjx hm;omega
theorem Jh6:∀ s:Sm,1<=wSm s
 |⟨_,_,_,_,_,_,_⟩=>by simp only[wSm];omega
theorem Jjy:∀ l:List Sm,l.length<=Qj l
 | []=>Ag
 | s::l=>by have:=Jjy l;have:=Jh6 s;simp only[Qj,Ad];omega
theorem Jem{H M:List Blk}{n j:Nat}{b c:Blk}(hn:n<H.length)(h:M[j]? = some c):(hp H n b M)[H.length+j]? = some c:=by rw[Vq hn j];exact h
def Jjz(nt:Nat)(r:Room)(rt:AV):List AV:=[.ptr nt 0,.str r.this,Kp 8 (r.vars.map Qo),.bool r.pred,rt,.bool r.inNew]
def BlX(pr:Jz)(F:Nat->Option IFn)(cs:List Cls)(U:List (List Nat))(l:List Sm):Prop:=∀(H:List Blk) (rw:List Nat) (rb nt:Nat) (r:Room) (rt:AV),canon1 rt=Kp 6 (Jo r.ret)->TbU H nt cs U->H[rb]? = some (.cells (Jjz nt r rt))->RmOk r->r.vars.length+Qj l<=90000000->Qj l<=64800000->r.ret.length<=1 ->
 ∃(v:AV) (rw':List Nat),(∀ l',blF cs U r l=.ok l'->IsL 7 v (Jg l'))/\Rx rw rw'/\Det pr F 78 [.ptr rb 0,Kp 7 (Jg l)] ⟨H,rw⟩ (KR (λ_=>v) (blF cs U r l)) ⟨H,rw'⟩
theorem JDg{nt:Nat}{r:Room}{rt:AV}(h:canon1 rt=Kp 6 (Jo r.ret)):Jh (Jjz nt r rt)=JC nt r:=by simp only[Jjz,JC,Jh,Ap,AC,h,Jq];rfl
theorem F2{Q:Prop}(h:Q:=by simp only[Jcj];rw[YS hlt];rfl):Q:=h
theorem F3{Q:Prop}(h:Q:=by first |rfl |(rw[hl7];rfl)):Q:=h
theorem JjA(L:LibY pr F){cs:List Cls}{U:List (List Nat)}{l:List Sm}(hS:∀ s∈l,StC pr F cs U s):BlX pr F cs U l:=by
 intro H rw rb nt r rt hrt T hrb hr hv hw hrl;have hm:=L.hm;suffices h:Wp pr F 78 [.ptr rb 0,Kp 7 (Jg l)] ⟨H,rw⟩ λr' S'=>∃(v:AV) (rw':List Nat),(∀ l',blF cs U r l=.ok l'->IsL 7 v (Jg l'))/\Rx rw rw'/\r'=KR (λ_=>v) (blF cs U r l)/\S'=⟨H,rw'⟩ by obtain⟨r',S',hd,v,rw',h0,h1,rfl,rfl⟩:=h.det hm;exact⟨v,rw',h0,h1,hd⟩
 have hR:Rx rw rw:=Rx.rfl;obtain⟨bt,hbt⟩:=T.at;have hlt:=T.lt;have hne:nt≠rb:=λe=>by obtain⟨mb,z,zb,tg,tb,o1,o2,o3,sl,h1,h2⟩:=T;have h1:=h1.at_;rw[e,hrb]at h1;simp[Jjz]at h1
 have hFb:=ZG hne hrb;have T1:=λM=>T.keep (X6 hbt M);have hsl:(Jg l).length=l.length:=by rw[Qh,Ak]
 have hwl:=Jjy l;generalize hqq:blF cs U r l=res at *;refine Kw hm L.f78.1 L.f78.2 rfl (Xi hbt) ?_;refine' JM;rw[JDg hrt];refine JB hm (λmm e S'=>∃(q:Nat) (done:List Sm) (r2:Room) (J:List Blk) (lv:AV) (rw3:List Nat),S'=⟨hp H nt bt (.cells (JC nt r2)::J),rw3⟩/\q<=l.length/\done.length=q/\RmOk r2/\r2.vars.length+Qj (l.drop q)<=90000000/\r2.ret.length<=1/\Lst rw 7 lv (Jg done) rw3/\Rx rw rw3 /\
   res=((blF cs U r2 (l.drop q)).bind λm=>.ok (done++m))/\mm=l.length-q /\
   e=[(5,.ptr (H.length+0) 0),(6,lv),(12,Kp 7 (Jg l)),(13,.int .i64 ((Jg l).length:Int)),(14,.int .i64 q)]) ?_ (m:=l.length) ⟨0,[],r,_,_,rw,rfl,O,rfl,hr,by rw[AA];exact hv,hrl,Lst.nil,hR,?_,rfl,rfl⟩
 rotate_left
 ·rw[AA,<- hqq];cases blF cs U r l <;> rfl
 clear hR hqq;rintro mm e S' ⟨q,done,r2,J,lv,rw3,rfl,hq0,hdl,hr2,hv2,hrl2,hl,hR,hod,rfl,rfl⟩;have hdl2:(Jg done).length=done.length:=by rw[Qh,Ak]
 by_cases hq:q<l.length
 ·obtain⟨s,hs⟩:∃ s,l[q]? = some s:=⟨_,Ab hq⟩
  have hsr:(Jg l)[q]? = some (Jp s):=by rw[Qh,Ax,hs];rfl
  have hl7:Kp 7 (Jg l)=.list 7 .dead (Jg l):=Kf (i:=q) O;rw[JDf hs]at hod;rw[JkT hs]at hv2;have hws:=Jjx (Aq hs);rw[hl7];refine' JM;obtain⟨hinv,rw4,hR4,hd⟩:=hS s (Aq hs) _ rw3 (H.length+0) nt r2 (T1 (.cells (JC nt r2)::(J++[.cells (Jp s)]))) (Jem hlt rfl) O hr2 O O hrl2;cases hc:XD cs U r2 s with
  | error c=>rw[hc]at hd hod;refine KV hd rfl rfl rfl ?_;rw[hod];exact KM (JS (JR hlt) ⟨.list 0 .full [],_,λl' h=>EB,hR.trans hR4,rfl,QP hbt⟩)
  | ok y=>
   obtain⟨s2,r3⟩:=y;rw[hc]at hd hod;obtain⟨hr3,hv3,hrl3⟩:=hinv _ hc;simp only at hr3 hv3 hrl3;have hset:Jcj (hp H nt bt (.cells (JC nt r2)::(J++[.cells (Jp s)]))) (H.length+0) nt (.ok (s2,r3))=hp H nt bt (.cells (JC nt r3)::(J++[.cells (Jp s)])):=F2
   rw[hset]at hd;refine Je rfl rfl rfl ?_;refine Ks hd ?_;simp only[SmR];clear hd hinv hset;replace hl:=hl.ext hR4;replace hR:=hR.trans hR4;refine JQ ?_;refine Qp ?_;refine Q1 rfl (vs:=[.agg (Jp s2)]) rfl ?_;refine Z2 (Kx s2) ?_;refine' JM;refine JT ?_;refine JW rfl rfl rfl ?_;refine QB hl hR AH AH O ?_;intro l4 rw7 hl4 hR7;refine JQ ?_;refine' JM;refine⟨l.length-(q+1),O,q+1,done++[s2],r3,_,l4,rw7,rfl,O,Fu,hr3,by have:=Jh6 s;omega,by rw[hrl3];exact hrl2,?_,hR7,?_,rfl,F3⟩
   ·rw[Qh,An,<- Qh];exact hl4
   ·rw[hod];show((blF cs U r3 (l.drop (q+1))).bind λl'=>.ok (s2::l')).bind _=_;cases blF cs U r3 (l.drop (q+1)) <;> simp[Except.bind]
 ·rw[AU O,blF]at hod;replace hod:res=.ok (done++[]):=hod;rw[Ar]at hod;refine' JM;rw[hod];refine Js rfl (hl.isL.below _) (JR hlt) ⟨lv,rw3,λl' h=>?_,hR,rfl,QP hbt⟩;simp only[Dh]at h;rw[<- h];exact hl.isL
theorem Jga(L:LibY pr F){cs:List Cls}{U:List (List Nat)}{l:List Sm}(hS:∀ s∈l,StC pr F cs U s):BlC pr F cs U l:=λH rw rb nt r T hrb hr hv hw hrl=>JjA L hS H rw rb nt r _ (Jq ..) T hrb hr hv hw hrl
theorem Js1{H:List Blk}{rb nt:Nat}{r:Room}{res:Er (Sm×Room)}(hrb:H[rb]? = some (.cells (JC nt r)))(h:∀ x,res=.ok x->x.2=r):Jcj H rb nt res=H:=by
 cases res with
 | error c=>rfl
 | ok x=>
  simp only[Jcj];rw[h x rfl];exact Cm λi=>by
   rw[List.getElem?_set];split
   ·rename_i hi;subst hi;split
    ·exact hrb.symm
    ·rename_i hl;exact absurd (Ac.1 hrb).1 hl
   ·rfl
mutual
theorem JRX(L:LibY pr F){cs:List Cls}{U:List (List Nat)}(C:Cst cs U):∀ s:Sm,Ja0 s->StC pr F cs U s
 | .mk kind n ty exs b e a,h=>by
  simp only[Ja0]at h;obtain⟨hk,hty,hex,hb,he⟩:=h;have hB:=Jga L (Jdr L C b hb);have hE:=Jga L (Jdr L C e he);have hty:=JiJ _ hty;have hex:=JbO _ hex;have hvt:=Jny ty;have hve:=Je3 exs;intro H rw rb nt r T hrb hnr hr hv hw hrl;simp only[wSm]at hv hw;have fin_:kind≠[108,101,116]->(∃ rw',Rx rw rw'/\Det pr F 121 [.ptr rb 0,.agg (Jp (.mk kind n ty exs b e a))] ⟨H,rw⟩ (KR SmR (XD cs U r (.mk kind n ty exs b e a))) ⟨H,rw'⟩) ->
    (∀ x,XD cs U r (.mk kind n ty exs b e a)=.ok x->RmOk x.2/\x.2.vars.length<=r.vars.length+1/\x.2.ret=r.ret)/\∃ rw',Rx rw rw'/\Det pr F 121 [.ptr rb 0,.agg (Jp (.mk kind n ty exs b e a))] ⟨H,rw⟩ (KR SmR (XD cs U r (.mk kind n ty exs b e a))) ⟨Jcj H rb nt (XD cs U r (.mk kind n ty exs b e a)),rw'⟩:=λhne hd=>by
   have h1:∀ x,XD cs U r (.mk kind n ty exs b e a)=.ok x->x.2=r:=λx hx=>Jn2 hne hx;rw[Js1 hrb h1];exact⟨λx hx=>by rw[h1 x hx];exact⟨hr,O,rfl⟩,hd⟩
  unfold Jd2 at hk;rcases hk with⟨rfl,-,hle,⟨x,rfl⟩,-,-⟩ |⟨rfl,-,rfl,⟨x,rfl⟩,-,-⟩ |⟨rfl,-,rfl,⟨x,y,rfl⟩,-,-⟩ |⟨rfl,-,rfl,⟨x,y,z,rfl⟩,-,-⟩ |⟨rfl,-,rfl,⟨x,rfl⟩⟩ |⟨rfl,-,rfl,⟨x,l,rfl⟩,-⟩ |⟨rfl,-,rfl,hle,-,-⟩ |⟨hk,-,rfl,⟨x,rfl⟩,-,-⟩
  ·simp only[KP,KE,AE,and_true]at hex hve;refine⟨λy hy=>?_,JDe L C T hrb hnr hr O O hex hty hle⟩;rw[XD,if_pos rfl]at hy;obtain⟨h1,h2,h3⟩:=JkM C hr hty O hex O hy;exact⟨h1,O,h3⟩
  ·simp only[KP,KE,AE,and_true]at hex hve;exact fin_ Aj (JDd L C T hrb hr O O hex)
  ·simp only[KP,KE,AE,and_true]at hex hve;exact fin_ Aj (JsY L C T hrb hr O O hex.1 hex.2)
  ·simp only[KP,KE,AE,and_true]at hex hve;exact fin_ Aj (Jv2 L C T hrb hr O O hex.1 hex.2.1 hex.2.2)
  ·simp only[KP,KE,AE,and_true]at hex hve;exact fin_ Aj (JRW L C T hrb hr O O hex hB hE hrl O O O O)
  ·simp only[KP,KE]at hex hve;exact fin_ Aj (Js0 L C T hrb hr O O hex.1 hex.2 hB hrl O O)
  ·exact fin_ Aj (Jp5 L C T hrb hr O O hex hle hrl)
  ·simp only[KP,KE,AE,and_true]at hex hve;rcases hk with rfl |rfl |rfl
   ·exact fin_ Aj (Jp4 L C T hrb hr O O hex)
   ·exact fin_ Aj (JsZ L C T hrb hr O O hex)
   ·exact fin_ Aj (JRV L C T hrb hr O O hex)
theorem Jdr(L:LibY pr F){cs:List Cls}{U:List (List Nat)}(C:Cst cs U):∀ l:List Sm,Vf l->∀ s∈l,StC pr F cs U s
 | [],_,s,hs=>by cases hs
 | t::l,h,s,hs=>by
  simp only[Vf]at h;have h1:=JRX L C t h.1;have h2:=Jdr L C l h.2;rcases AS.1 hs with rfl |hs
  ·exact h1
  ·exact h2 s hs
end
theorem JDh(L:LibY pr F){cs:List Cls}{U:List (List Nat)}(C:Cst cs U)(l:List Sm)(h:Vf l):BlX pr F cs U l:=JjA L (Jdr L C l h)
theorem Jp6{l:List Sm}{q:Nat}{t:Sm}(h:l[q]? = some t):XM (l.drop q)=(Ju3 t || XM (l.drop (q+1))):=by obtain⟨hl,he⟩:=Ac.1 h;rw[AY hl,he,XM]
def JDi(pr:Jz)(F:Nat->Option IFn):Sm->Prop
 | .mk _ _ _ _ b e _=>TxOk pr F 183 [Kp 7 (Jg b)] (.bool (XM b))/\TxOk pr F 183 [Kp 7 (Jg e)] (.bool (XM e))
theorem Jgb(L:LibY pr F){l:List Sm}{s7:Nat}{tg:Tag}(hs7:l≠[]->s7=7)(hl:l.length<=64800000)(hS:∀ s∈l,JDi pr F s):TxOk pr F 183 [.list s7 tg (Jg l)] (.bool (XM l)):=by
 have hm:=L.hm;refine TxOk.of0 hm L.f183.1 L.f183.2 rfl ?_;intro H rw b hlt;have hR:Rx rw rw:=Rx.rfl;have hll:(Jg l).length=l.length:=Jd5 l;refine' JM;refine JB hm (λmm e S'=>∃(q:Nat) (J:List Blk) (rw3:List Nat),S'=⟨hp H 0 b J,rw3⟩/\Rx rw rw3/\q<=l.length/\XM l=XM (l.drop q)/\mm=l.length-q /\
  e=[(5,.list s7 tg (Jg l)),(6,.int .i64 ((Jg l).length:Int)),(7,.int .i64 q)]) ?_ (m:=l.length) ⟨0,[],rw,rfl,Rx.rfl,O,rfl,rfl,rfl⟩
 clear hR;rintro mm e S' ⟨q,J,rw3,rfl,hR,hq0,hne,rfl,rfl⟩;by_cases hq:q<l.length
 ·obtain⟨s,hx⟩:∃ s,l[q]? = some s:=⟨_,Ab hq⟩
  have hxr:(Jg l)[q]? = some (Jp s):=by rw[Qh,Ax,hx];rfl
  obtain rfl:=hs7 (λh=>by rw[h]at hq;exact absurd hq Ag);rw[Jp6 hx]at hne;have hsc:=hS s (Aq hx);obtain⟨kind,n,ty,exs,b1,e1,a⟩:=s;obtain⟨hb1,he1⟩:=hsc;simp only[Ju3]at hne;have next:∀(J':List Blk) (rw4:List Nat),Rx rw rw4->XM l=XM (l.drop (q+1))->∃ m'<l.length-q,∃(q':Nat) (J:List Blk) (rw3:List Nat),(⟨hp H 0 b J',rw4⟩:St)=⟨hp H 0 b J,rw3⟩/\Rx rw rw3/\q'<=l.length/\XM l=XM (l.drop q')/\m'=l.length-q' /\
   [(5,AV.list 7 tg (Jg l)),(6,AV.int .i64 ((Jg l).length:Int)),(7,AV.int .i64 ((q:Int)+1))]=[(5,.list 7 tg (Jg l)),(6,.int .i64 ((Jg l).length:Int)),(7,.int .i64 q')]:=λJ' rw4 h1 h2=>⟨l.length-(q+1),O,q+1,J',rw4,rfl,h1,O,h2,rfl,rfl⟩
  by_cases k1:kind=[114,101,116,117,114,110]
  ·subst k1;refine' JM;exact Js rfl rfl (JR hlt) ⟨_,hR,Fa,rfl⟩
  rw[beq_eq_false_iff_ne.2 k1,B3]at hne;by_cases k2:kind=[105,102]
  ·subst k2;rw[beq_self_eq_true,BW]at hne;cases hbv:XM b1 with
   | false=>rw[hbv]at hb1 hne;refine' JM;exact next _ _ hR hne
   | true=>
    cases hev:XM e1 with
    | false=>rw[hbv,hev]at hne;rw[hbv]at hb1;rw[hev]at he1;refine' JM;exact next _ _ hR hne
    | true=>rw[hbv,hev]at hne;rw[hbv]at hb1;rw[hev]at he1;refine' JM;exact Js rfl rfl (JR hlt) ⟨_,hR,Fa,rfl⟩
  ·rw[beq_eq_false_iff_ne.2 k2,CZ,B3]at hne;refine' JM;exact next _ _ hR hne
 ·refine' JM;rw[AU O]at hne;exact Js rfl rfl (JR hlt) ⟨_,hR,Fa,rfl⟩
theorem Jon(L:LibY pr F){l:List Sm}(hl:l.length<=64800000)(hS:∀ s∈l,JDi pr F s):TxOk pr F 183 [Kp 7 (Jg l)] (.bool (XM l)):=by
 cases l with
 | nil=>exact Jgb L (s7:=0) (tg:=.full) (λh=>absurd rfl h) hl hS
 | cons s l=>exact Jgb L (s7:=7) (tg:=.dead) (λ_=>rfl) hl hS
mutual
def zSm:Sm->Nat
 | .mk _ _ _ _ b e _=>1+Jck b+Jck e
def Jck:List Sm->Nat
 | []=>0
 | s::l=>zSm s+Jck l
end
theorem Jfm:∀ l:List Sm,l.length<=Jck l
 | []=>Ag
 |⟨_,_,_,_,b,e,_⟩::l=>by have:=Jfm l;simp only[Jck,zSm,Ad];omega
mutual
theorem J4y:∀ s:Sm,zSm s<=wSm s
 | .mk _ _ _ _ b e _=>by have:=JrN b;have:=JrN e;simp only[zSm,wSm];omega
theorem JrN:∀ l:List Sm,Jck l<=Qj l
 | []=>by simp only[Jck,Qj,Ao]
 | s::l=>by have:=J4y s;have:=JrN l;simp only[Jck,Qj];omega
end
theorem J0R{cs:List Cls}{U:List (List Nat)}{r:Room}{kind n:Jk}{ty:List Ty}{exs:List Xp}{b e:List Sm}{a:Int}{x:Sm×Room}(h:Jch cs U r kind n ty exs b e a=.ok x):zSm x.1=1+Jck b+Jck e:=by
 unfold Jch at h;split at h
 ·cases h
 split at h
 ·obtain⟨_,-,h⟩:=Jd h;obtain⟨_,-,h⟩:=Jd h;obtain⟨_,-,h⟩:=Jd h;cases h;simp only[zSm]
 ·obtain⟨_,-,h⟩:=Jd h;split at h
  ·cases h
  ·cases h;simp only[zSm]
theorem J0S{cs:List Cls}{U:List (List Nat)}{r:Room}{kind n:Jk}{ty:List Ty}{exs:List Xp}{b e:List Sm}{a:Int}{x:Sm}(h:Jhi cs U r kind n ty exs b e a=.ok x):zSm x=1+Jck b+Jck e:=by
 unfold Jhi at h;split at h
 ·cases h
 split at h
 ·cases h
 split at h
 ·cases h;simp only[zSm]
 ·obtain⟨_,-,h⟩:=Jd h;cases h;simp only[zSm]
mutual
theorem JRZ(cs:List Cls)(U:List (List Nat)):∀(s:Sm) (r:Room) (x:Sm×Room),XD cs U r s=.ok x->zSm x.1=zSm s
 | .mk kind n ty exs b e a,r,x,h=>by
  have kb:=λl' h=>Jh8 cs U b r l' h;have ke:=λl' h=>Jh8 cs U e r l' h;rw[XD]at h;split at h
  ·rw[J0R h,zSm]
  split at h
  ·split at h
   ·cases h
   ·split at h
    ·cases h
    ·obtain⟨_,-,h⟩:=Jd h;cases h;simp only[zSm]
  split at h
  ·obtain⟨_,-,h⟩:=Jd h;obtain⟨_,-,h⟩:=Jd h;split at h
   ·cases h
   ·obtain⟨_,-,h⟩:=Jd h;cases h;simp only[zSm]
  split at h
  ·obtain⟨_,-,h⟩:=Jd h;split at h
   ·cases h
   ·obtain⟨_,-,h⟩:=Jd h;obtain⟨_,-,h⟩:=Jd h;cases h;simp only[zSm]
  split at h
  ·obtain⟨_,-,h⟩:=Jd h;obtain⟨b',hb,h⟩:=Jd h;obtain⟨e',he,h⟩:=Jd h;cases h;simp only[zSm,kb _ hb,ke _ he]
  split at h
  ·obtain⟨_,-,h⟩:=Jd h;obtain⟨_,-,h⟩:=Jd h;obtain⟨b',hb,h⟩:=Jd h;cases h;simp only[zSm,kb _ hb]
  split at h
  ·obtain⟨y,hy,h⟩:=Jd h;cases h;rw[J0S hy,zSm]
  split at h
  ·obtain⟨_,-,h⟩:=Jd h;cases h;simp only[zSm]
  split at h
  ·obtain⟨_,-,h⟩:=Jd h;cases h;simp only[zSm]
  ·obtain⟨_,-,h⟩:=Jd h;cases h;simp only[zSm]
theorem Jh8(cs:List Cls)(U:List (List Nat)):∀(l:List Sm) (r:Room) (l':List Sm),blF cs U r l=.ok l'->Jck l'=Jck l
 | [],r,l',h=>by rw[blF]at h;cases h;rfl
 | s::l,r,l',h=>by rw[blF]at h;obtain⟨x,hx,h⟩:=Jd h;obtain⟨m,hm,h⟩:=Jd h;cases h;simp only[Jck,JRZ cs U s r x hx,Jh8 cs U l x.2 m hm]
end
mutual
theorem JDj(L:LibY pr F):∀ s:Sm,zSm s<=64800000->JDi pr F s
 | .mk _ _ _ _ b e _,h=>by simp only[zSm]at h;have hb:=Jfm b;have he:=Jfm e;exact⟨Jon L O (Jfn L b O),Jon L O (Jfn L e O)⟩
theorem Jfn(L:LibY pr F):∀ l:List Sm,Jck l<=64800000->∀ s∈l,JDi pr F s
 | [],_,s,hs=>by cases hs
 | t::l,h,s,hs=>by
  simp only[Jck]at h;have h1:=JDj L t O;have h2:=Jfn L l O;rcases AS.1 hs with rfl |hs
  ·exact h1
  ·exact h2 s hs
end
theorem Jv3(L:LibY pr F){l:List Sm}{s7:Nat}{tg:Tag}(hs7:l≠[]->s7=7)(h:Jck l<=64800000):TxOk pr F 183 [.list s7 tg (Jg l)] (.bool (XM l)):=by have:=Jfm l;exact Jgb L hs7 O (Jfn L l h)
theorem Js2{cs:List Cls}{U:List (List Nat)}{r:Room}{l:List Par}{q:Nat}{p:Par}(h:l[q]? = some p):XE cs U r (l.drop q)=(tyF cs U r p.type).bind λt=>(XE cs U (Vz r p.name t true) (l.drop (q+1))).bind λx=>.ok (x.1,{p with type:=t}::x.2):=by obtain⟨hl,he⟩:=Ac.1 h;rw[AY hl,he,XE]
theorem JDk{α:Type}{w:α->Nat}{l:List α}{q:Nat}{x:α}(h:l[q]? = some x):wL w (l.drop q)=w x+wL w (l.drop (q+1)):=by obtain⟨hl,he⟩:=Ac.1 h;rw[AY hl,he,wL]
theorem Jv4{H M:List Blk}{rw:List Nat}{n j t u kd:Nat}{b:Blk}{vs:List AV}{lv:AV}{e:KC}{Q:Res->St->Prop}(hlt:n<H.length)(he:Jj e t=some (.ptr (H.length+j) 0))(hu:Jj e u=some lv)(hM:M[j]? = some (.cells vs))(hl:vs.length=kd)(hc:Jh vs=vs)(hb:Ai.belowL H.length vs=true)(hb2:Ai.below H.length lv=true)
  (h:Q (.ret (.tup [.agg vs,lv])) ⟨hp H n b [],rw⟩):fin [.cell t (some kd),.tmp u] H.length Q .ret e ⟨hp H n b M,rw⟩:=by
 have e2:QT [.cell t (some kd),.tmp u] e (hp H n b M)=some [.agg vs,lv]:=by have e1:(hp H n b M)[H.length+j]? = some (.cells vs):=(Vq hlt j).trans hM;simp only[QT,he,hu,J9,e1,AF];rw[if_pos O,AA,AB O,hc]
 exact X7 e2 (by simp only[Ai.belowL,Ai.below,hb,hb2,A0]) (JR hlt) h
def J0T(nt:Nat)(v:AV)(x:Room×List Par):AV:=.tup [.agg (JC nt x.1),v]
theorem Joo(L:LibY pr F){cs:List Cls}{U:List (List Nat)}(C:Cst cs U){H:List Blk}{rw:List Nat}{nt:Nat}{r:Room}{l:List Par}(T:TbU H nt cs U)(hr:RmOk r)(hw:∀ p∈l,Vg p.type)(hv:r.vars.length+wL V0 l<=90000000)(hv2:wL V0 l<=64800000) :
  ∃(v:AV) (rw':List Nat),(∀ x,XE cs U r l=.ok x->IsL 8 v (x.2.map Jf))/\Rx rw rw'/\Det pr F 179 [.agg (JC nt r),Kp 8 (l.map Jf)] ⟨H,rw⟩ (KR (J0T nt v) (XE cs U r l)) ⟨H,rw'⟩:=by
 have hm:=L.hm;suffices h:Wp pr F 179 [.agg (JC nt r),Kp 8 (l.map Jf)] ⟨H,rw⟩ λr' S'=>∃(v:AV) (rw':List Nat),(∀ x,XE cs U r l=.ok x->IsL 8 v (x.2.map Jf))/\Rx rw rw'/\r'=KR (J0T nt v) (XE cs U r l)/\S'=⟨H,rw'⟩ by obtain⟨r',S',hd,v,rw',h0,h1,rfl,rfl⟩:=h.det hm;exact⟨v,rw',h0,h1,hd⟩
 have hR:Rx rw rw:=Rx.rfl;obtain⟨bt,hbt⟩:=T.at;have hlt:=T.lt;have T1:=λM=>T.keep (X6 hbt M);have hsl:(l.map Jf).length=l.length:=Ak _;have hwl:=Jb0 (w:=V0) (λx=>Ca) l;generalize hqq:XE cs U r l=res at *;refine Kw hm L.f179.1 L.f179.2 rfl (Xi hbt) ?_;refine' JM;refine JB hm (λmm e S'=>∃(q:Nat) (done:List Par) (r2:Room) (J:List Blk) (lv:AV) (rw3:List Nat),S'=⟨hp H nt bt (.cells [.nilp,.str [],.list 0 .full [],.bool false,.list 0 .full [],.bool false]::.cells (JC nt r2)::J),rw3⟩/\q<=l.length/\done.length=q/\RmOk r2/\r2.vars.length+wL V0 (l.drop q)<=90000000/\Lst rw 8 lv (done.map Jf) rw3/\Rx rw rw3 /\
   res=((XE cs U r2 (l.drop q)).bind λx=>.ok (x.1,done++x.2))/\mm=l.length-q /\
   e=[(2,.ptr (H.length+1) 0),(4,.ptr (H.length+0) 0),(6,lv),(9,Kp 8 (l.map Jf)),(10,.int .i64 ((l.map Jf).length:Int)),(11,.int .i64 q)]) ?_ (m:=l.length) ⟨0,[],r,_,_,rw,rfl,O,rfl,hr,by rw[AA];exact hv,Lst.nil,hR,?_,rfl,rfl⟩
 rotate_left
 ·rw[AA,<- hqq];cases XE cs U r l <;> rfl
 clear hR hqq;rintro mm e S' ⟨q,done,r2,J,lv,rw3,rfl,hq0,hdl,hr2,hv3,hl,hR,hod,rfl,rfl⟩;have hdl2:(done.map Jf).length=done.length:=Ak _;by_cases hq:q<l.length
 ·obtain⟨p,hp⟩:∃ p,l[q]? = some p:=⟨_,Ab hq⟩
  have hpr:(l.map Jf)[q]? = some (Jf p):=by rw[Ax,hp];rfl
  have hl8:Kp 8 (l.map Jf)=.list 8 .dead (l.map Jf):=Kf (i:=q) O;rw[Js2 hp]at hod;rw[JDk hp]at hv3;have hpm:=Aq hp;have hpw:=hw p hpm;have hpv:=Q3 (w:=V0) hpm;obtain⟨pn,⟨k1,n1,u1,e1,p1,a1⟩,pa⟩:=p;simp only[V0]at hpv hv3;simp only at hpw hod;rw[hl8];refine' JM;rw[Xd];obtain⟨rw4,hR4,hd⟩:=Jjv L C (t:=.mk k1 n1 u1 e1 p1 a1) (T1 (.cells [.nilp,.str [],.list 0 .full [],.bool false,.list 0 .full [],.bool false]::.cells (JC nt r2)::(J++[.cells (Jf ⟨pn,.mk k1 n1 u1 e1 p1 a1,pa⟩)]))) hr2 O O (.inl hpw) (rw:=rw3);refine Kk hd rfl rfl rfl ?_ ?_
  ·intro c hc;rw[hc]at hod;rw[hod];exact KM (JS (JR hlt) ⟨.list 0 .full [],_,λl' h=>EB,hR.trans hR4,rfl,QP hbt⟩)
  intro t' v hvx hc;rw[hc]at hod;change v=.agg (Jl t')at hvx;subst hvx;clear hd;have htw:=C.ty hr2 hpw O hc;have hTX:Zm t':=⟨.inl htw.1,O⟩
  replace hl:=hl.ext hR4;replace hR:=hR.trans hR4;obtain⟨k2,n2,u2,e2,p2,a2⟩:=t';refine JQ ?_;refine' JM;have hpe:List.take 1 (Jf ⟨pn,.mk k1 n1 u1 e1 p1 a1,pa⟩)++Jl (.mk k2 n2 u2 e2 p2 a2)++List.drop 7 (Jf ⟨pn,.mk k1 n1 u1 e1 p1 a1,pa⟩)=Jf ⟨pn,.mk k2 n2 u2 e2 p2 a2,pa⟩:=rfl;have hrp:=Vs ⟨pn,.mk k2 n2 u2 e2 p2 a2,pa⟩;rw[hpe,hrp.can];refine Qp ?_;refine Q1 rfl (vs:=[.agg (Jf ⟨pn,.mk k2 n2 u2 e2 p2 a2,pa⟩)]) rfl ?_;refine Z2 hrp ?_;refine' JM;refine JT ?_;refine JW rfl rfl rfl ?_;refine QB hl hR AH AH O ?_;intro l4 rw7 hl4 hR7;refine JQ ?_;refine' JM;rw[Xd];obtain⟨rw5,hR5,hd⟩:=Jc2 L.toLibW (H:=Ai.hp H nt bt (.cells [.nilp,.str [],.list 0 .full [],.bool false,.list 0 .full [],.bool false]::.cells (JC nt r2)::(J++[.cells (Jf ⟨pn,.mk k2 n2 u2 e2 p2 a2,pa⟩)]))) (Jjw hlt) rw7 r2 pn (.mk k2 n2 u2 e2 p2 a2) true O;refine Je rfl rfl rfl ?_;refine Ks hd ?_;clear hd;replace hl4:=hl4.ext hR5;replace hR7:=hR7.trans hR5;refine JQ ?_;refine' JM;refine⟨l.length-(q+1),O,q+1,done++[⟨pn,.mk k2 n2 u2 e2 p2 a2,pa⟩],Vz r2 pn (.mk k2 n2 u2 e2 p2 a2) true,_,l4,rw5,rfl,O,Fu,Jfh hr2 hTX pn true,by simp only[Vz,AG,Cu];omega,Ek,hR7,?_,rfl,Ft⟩;rw[hod];show((XE cs U (Vz r2 pn (.mk k2 n2 u2 e2 p2 a2) true) (l.drop (q+1))).bind λx=>.ok (x.1,(⟨pn,.mk k2 n2 u2 e2 p2 a2,pa⟩:Par)::x.2)).bind _=_;cases XE cs U (Vz r2 pn (.mk k2 n2 u2 e2 p2 a2) true) (l.drop (q+1)) <;> simp[Except.bind]
 ·rw[AU O,XE]at hod;replace hod:res=.ok (r2,done++[]):=hod;rw[Ar]at hod;refine' JM;rw[Xd,hod];refine Jv4 hlt rfl rfl rfl rfl (Xd nt r2) (Jbt hlt r2) (hl.isL.below _) ⟨lv,rw3,λx h=>?_,hR,rfl,QP hbt⟩;simp only[Dh]at h;rw[<- h];exact hl.isL
theorem J0U{cs:List Cls}{U:List (List Nat)}(hup:∀ i l,U[i]? = some l->JaF cs i l)(i:Nat):muU U i<=cs.length:=by
 unfold muU;rw[A4];cases hl:U[i]? with
 | none=>simp
 | some l=>obtain⟨bs,-,-,rfl⟩:=hup i l hl;exact X1 bs _
theorem Jj0{cs:List Cls}{U:List (List Nat)}(hU:U.length=cs.length)(hup:∀ i l,U[i]? = some l->JaF cs i l)(hl:YA cs)(hok:∀ c∈cs,Zk c)(hac:∀ i,i<cs.length->¬Up cs i i) :
  ∀(k:Nat) (s:Jk),(∀ i,J6 cs s=some i->muU U i<k)->XB cs (k+1) s=XB cs k s:=by
 intro k;induction k with
 | zero=>
  intro s h;simp only[XB];cases hp:J6 cs s with
  | none=>rfl
  | some i=>have:=h i hp;omega
 | succ k ih=>
  intro s h;rw[Yq,Yq];cases hp:J6 cs s with
  | none=>rfl
  | some i=>
   simp only[YT]
   congr 1
   refine ih _ λj hj=>?_;have h1:=h i hp;obtain⟨c,hc,-⟩:=Xf hp;have h2:=Jq6 hU hup hl hac (Ac.1 hc).1 (Ji0 hok hj);omega
theorem Jop{cs:List Cls}{U:List (List Nat)}(hU:U.length=cs.length)(hup:∀ i l,U[i]? = some l->JaF cs i l)(hl:YA cs)(hok:∀ c∈cs,Zk c)(hac:∀ i,i<cs.length->¬Up cs i i)
  {s:Jk} {i:Nat} (hp:J6 cs s=some i):KZ cs s=i::KZ cs (Z9 cs i):=by
 unfold KZ;rw[Yq,hp];simp only[YT]
 congr 1
 refine(Jj0 hU hup hl hok hac cs.length _ λj hj=>?_).symm;obtain⟨c,hc,-⟩:=Xf hp;have h2:=Jq6 hU hup hl hac (Ac.1 hc).1 (Ji0 hok hj);have h3:=J0U (cs:=cs) hup i;omega
structure Cx(cs:List Cls)(U:List (List Nat)):Prop where
 un:Unlike cs
 li:YA cs
 ok:∀ c∈cs,Zk c
 ac:∀ i,i<cs.length->¬Up cs i i
 ul:U.length=cs.length
 up:∀ i l,U[i]? = some l->JaF cs i l
 all:Jq8 cs U
theorem Cx.mem{cs:List Cls}{U:List (List Nat)}(X:Cx cs U){i k:Nat}{c:Cls}(hc:cs[i]? = some c):k∈U.getD i []↔Up cs i k:=by
 have hi:=(Ac.1 hc).1;obtain⟨u,hu⟩:∃ u,U[i]? = some u:=⟨_,Ab (by rw[X.ul];exact hi)⟩
 rw[A4,hu];exact JhF (X.up i u hu) X.li k
theorem Cx.ifc{cs:List Cls}{U:List (List Nat)}(X:Cx cs U){i k:Nat}{c d:Cls}(hc:cs[i]? = some c)(hi:c.iface=true)(hk:k∈nxt cs i)(hd:cs[k]? = some d):d.iface=true:=by
 have hcm:=Aq hc;have hs:c.super=[]:=by
  rcases(X.ok c hcm).2.1 with h |⟨-,h⟩
  ·exact h
  ·rw[hi]at h;cases h
 unfold nxt at hk;rw[hc]at hk;simp only[Jpn,hs,if_true,Au]at hk;obtain⟨a,ha,rfl⟩:=Bw.1 hk;obtain⟨j,d',h1,h2,h3⟩:=(X.li c hcm).2 a ha;rw[h1]at hd;simp only[Bc]at hd;rw[h2]at hd;simp only[V]at hd;subst hd;exact h3
theorem Cx.sup{cs:List Cls}{U:List (List Nat)}(X:Cx cs U){i k:Nat}{c d:Cls}(hc:cs[i]? = some c)(hk:k∈nxt cs i)(hd:cs[k]? = some d)(hn:d.iface=false):Z9 cs i=d.name/\J6 cs d.name=some k:=by
 have hcm:=Aq hc;refine⟨?_,X.un k d hd⟩;unfold nxt at hk;rw[hc]at hk;simp only[Jpn]at hk;rcases AM.1 hk with hk |hk
 ·split at hk
  ·cases hk
  ·rename_i hs;obtain⟨j,d',h1,h2,h3⟩:=(X.li c hcm).1 hs;simp only[AN,h1,Bc]at hk;subst hk;obtain⟨c2,h4,h5⟩:=Xf h1;rw[hd]at h4;simp only[V]at h4;subst h4;unfold Z9;rw[hc,h5]
 ·obtain⟨a,ha,rfl⟩:=Bw.1 hk;obtain⟨j,d',h1,h2,h3⟩:=(X.li c hcm).2 a ha;rw[h1]at hd;simp only[Bc]at hd;rw[h2]at hd;simp only[V]at hd;subst hd;rw[h3]at hn;cases hn
theorem Cx.cons{cs:List Cls}{U:List (List Nat)}(X:Cx cs U){i:Nat}{c:Cls}(hc:cs[i]? = some c):KZ cs c.name=i::KZ cs (Z9 cs i):=
 Jop X.ul X.up X.li X.ok X.ac (X.un i c hc)
def inS(sig:Jk)(out:List (Jk×Jk×Mth)):Prop:=∃ y∈out,y.1=sig
theorem Jfo{owner:Jk}{out:List (Jk×Jk×Mth)}{m:Mth}{x:Jk×Jk×Mth}:x∈JbW owner out m↔x∈out\/(¬inS x.1 out/\Vx m.name m.params=x.1/\m=x.2.2/\x.2.1=owner):=by
 unfold JbW;split
 ·rename_i h;rw[Jfd]at h;constructor
  ·exact .inl
  ·rintro(h1 |⟨h1,h2,-⟩)
   ·exact h1
   ·exact absurd (h2 ▸ h) h1
 ·rename_i h;rw[Jfd]at h;rw[AM,AN];constructor
  ·rintro(h1 |rfl)
   ·exact .inl h1
   ·exact .inr ⟨h,rfl,rfl,rfl⟩
  ·rintro(h1 |⟨h1,h2,h3,h4⟩)
   ·exact .inl h1
   ·right;obtain⟨a,b,c⟩:=x;simp only at h2 h3 h4;rw[h2,h3,h4]
theorem Jor{owner sig:Jk}{out:List (Jk×Jk×Mth)}{m:Mth}:inS sig (JbW owner out m)↔inS sig out\/Vx m.name m.params=sig:=by
 constructor
 ·rintro⟨y,hy,rfl⟩;rcases Jfo.1 hy with h |⟨-,h,-⟩
  ·exact .inl ⟨y,h,rfl⟩
  ·exact .inr h
 ·intro h;by_cases hi:inS sig out
  ·obtain⟨y,hy,hs⟩:=hi;exact⟨y,Jfo.2 (.inl hy),hs⟩
  ·rcases h with h |h
   ·exact absurd h hi
   ·exact⟨(sig,owner,m),Jfo.2 (.inr ⟨hi,h,rfl,rfl⟩),rfl⟩
theorem Jos{owner:Jk}{x:Jk×Jk×Mth}:∀{ms:List Mth} {out:List (Jk×Jk×Mth)},x∈ms.foldl (JbW owner) out↔x∈out\/(¬inS x.1 out/\JaG x.1 ms=some x.2.2/\x.2.1=owner)
 | [],out=>by simp[JaG]
 | m::ms,out=>by
  rw[Ce,Jos,Jfo,Jor];simp only[JaG];by_cases hs:Vx m.name m.params=x.1
  ·simp only[hs,or_true,not_true_eq_false,false_and,or_false,if_true,true_and,V]
  ·simp only[hs,or_false,false_and,and_false,if_false]
theorem Jot{owner sig:Jk}:∀{ms:List Mth} {out:List (Jk×Jk×Mth)},inS sig (ms.foldl (JbW owner) out)↔inS sig out\/(JaG sig ms).isSome=true
 | [],out=>by simp[JaG]
 | m::ms,out=>by
  rw[Ce,Jot,Jor];simp only[JaG];by_cases hs:Vx m.name m.params=sig
  ·simp[hs]
  ·simp[hs]
theorem Jou{cs:List Cls}{x:Jk×Jk×Mth}:∀{l:List Nat} {out:List (Jk×Jk×Mth)},x∈l.foldl (JdD cs) out↔x∈out\/(¬inS x.1 out/\∃ j,ZQ cs x.1 l=some (j,x.2.2)/\x.2.1=Zc cs j)
 | [],out=>by simp[ZQ]
 | i::l,out=>by
  rw[Ce,Jou];simp only[ZQ,JdD,Zb];cases hc:cs[i]? with
  | none=>simp
  | some c=>
   simp only;rw[Jos,Jot];cases ho:JaG x.1 c.meths with
   | none=>simp
   | some m=>
    simp only[Bj,or_true,not_true_eq_false,false_and,or_false,V,AP];constructor
    ·rintro(h |⟨h1,h2,h3⟩)
     ·exact .inl h
     ·exact .inr ⟨h1,i,⟨rfl,h2⟩,by rw[h3,Zc,hc]⟩
    ·rintro(h |⟨h1,j,⟨rfl,h2⟩,h3⟩)
     ·exact .inl h
     ·exact .inr ⟨h1,h2,by rw[h3,Zc,hc]⟩
theorem Js3{cs:List Cls}{U:List (List Nat)}{s:Jk}{x:Jk×Jk×Mth}:x∈Jfe cs U s↔∃ j,XL cs U s x.1=some (j,x.2.2)/\x.2.1=Zc cs j:=by unfold Jfe XL;rw[Jou];simp[inS]
theorem JkU{k:Jk}:∀{l:List (Jk×Jk×Mth)},k∈Yw l->Jbo k l∈l/\(Jbo k l).1=k
 | [],h=>EB
 | x::l,h=>by
  unfold Jbo;split
  ·exact⟨Bl,Aa⟩
  ·rename_i hne;rcases AS.1 h with rfl |h
   ·exact absurd rfl hne
   ·obtain⟨h1,h2⟩:=JkU h;exact⟨A7 _ h1,h2⟩
theorem Jov{x:Jk×Jk×Mth}:∀{l:List (Jk×Jk×Mth)},(Yw l).Nodup->x∈l->Jbo x.1 l=x
 | [],_,h=>EB
 | y::l,hn,h=>by
  change (y.1::Yw l).Nodup at hn;rw[B6]at hn;unfold Jbo;rcases AS.1 h with rfl |h
  ·rw[if_pos rfl]
  ·rw[if_neg (λe=>hn.1 (by rw[e];exact List.mem_map_of_mem h))];exact Jov hn.2 h
theorem Js4{l:List (Jk×Jk×Mth)}(hn:(Yw l).Nodup){x:Jk×Jk×Mth}:x∈JgV l↔x∈l:=by
 unfold JgV;rw[Bw];constructor
 ·rintro⟨k,hk,rfl⟩;exact(JkU ((Yj _).mem_iff.1 hk)).1
 ·intro h;exact⟨x.1,(Yj _).mem_iff.2 (List.mem_map_of_mem h),Jov hn h⟩
theorem Jds{cs:List Cls}{U:List (List Nat)}{s:Jk}{x:Jk×Jk×Mth}:x∈V5 cs U s↔∃ j,XL cs U s x.1=some (j,x.2.2)/\x.2.1=Zc cs j:=by unfold V5;rw[Js4 (JkE cs U s)];exact Js3
theorem JkV{op name:Jk}{az:List (Int×Jk)}{t t':Jk}(h:op≠[108,105,115,116]):XS op name az t=XS op name az t':=by unfold XS;simp only[if_neg h]
section
variable (cs:List Cls) (U:List (List Nat))
theorem F4{Q:Prop}(h:Q:=by rw[e]at hn;exact absurd hn Aj):Q:=h
mutual
theorem Jow:∀(x:Xp) (r:Room) (x':Xp),r.pred=true->exF cs U r x=.ok x'->Jy x'=Jy x/\x'.op=x.op
 | .mk op n l ty a,r,x',hp,h=>by
  obtain⟨hn,h⟩:=Jdq h;have hn:=hn hp;have n1:op≠[108,105,115,116]:=λe=>F4
  have n2:op≠[110,101,119]:=λe=>F4
  have n3:op≠[99,97,108,108]:=λe=>F4
  have leaf:∀ t,Jy (.mk op n l [t] a)=Jy (.mk op n l ty a)/\(Xp.mk op n l [t] a).op=(Xp.mk op n l ty a).op:=λt=>⟨by simp only[Jy];exact JkV n1,rfl⟩
  rcases h with⟨-,rfl⟩ |⟨-,rfl⟩ |⟨-,rfl⟩ |⟨-,-,rfl⟩ |⟨-,v,-,rfl⟩ |⟨e,-⟩ |⟨e,-⟩ |⟨-,-,-,-,-,-,-,-,-,l',hl,h⟩
  ·exact leaf _
  ·exact leaf _
  ·exact leaf _
  ·exact leaf _
  ·exact leaf _
  ·exact absurd e n2
  ·exact absurd e n1
  ·rw[if_neg n3]at hl;obtain⟨ty',rfl⟩:=Jb1 n3 h;have h1:=JkW l r l' hp hl;refine⟨?_,rfl⟩;simp only[Jy,h1];exact JkV n1
theorem JkW:∀(l:List Xp) (r:Room) (l':List Xp),r.pred=true->QH cs U r none l=.ok l'->KH l'=KH l
 | [],r,l',_,h=>by rw[QH]at h;cases h;rfl
 | x::l,r,l',hp,h=>by rw[QH]at h;obtain⟨y,hy,h⟩:=Jd h;obtain⟨m,hm,h⟩:=Jd h;cases h;obtain⟨h1,h2⟩:=Jow x r y hp hy;have h3:=JkW l r m hp hm;rw[XT,XT,h1,h2,h3]
end
theorem Jox:∀(l:List Xp) (r:Room) (l':List Xp),Jec cs U r l=.ok l'->QX l'=QX l
 | [],r,l',h=>by rw[Jec]at h;cases h;rfl
 | x::l,r,l',h=>by rw[Jec]at h;obtain⟨y,hy,h⟩:=Jd h;obtain⟨y',hy',h⟩:=Jd h;obtain⟨m,hm,h⟩:=Jd h;cases h;obtain⟨rfl,-⟩:=Jjd hy';simp only[QX,(Jow cs U x _ y' rfl hy).1,Jox l r m hm]
mutual
theorem JrP:∀(t:Ty) (r:Room) (t':Ty),tyF cs U r t=.ok t'->Q2 t'=Q2 t/\QV t'=QV t/\V6 t'=V6 t/\nmT t'=nmT t
 | .mk k n u e p a,r,t',h=>by rw[tyF]at h;obtain⟨e',he,h⟩:=Jd h;obtain⟨p',hp,h⟩:=Jd h;cases h;have h1:=Jv6 e e' he;have h2:=Jox cs U p _ p' hp;exact⟨by simp only[Q2,h1,h2],by simp only[QV,h1],rfl,rfl⟩
theorem Jv6:∀(l:List Ty) (l':List Ty),YV cs U l=.ok l'->Ve l'=Ve l
 | [],l',h=>by rw[YV]at h;cases h;rfl
 | t::l,l',h=>by rw[YV]at h;obtain⟨y,hy,h⟩:=Jd h;obtain⟨m,hm,h⟩:=Jd h;cases h;simp only[Ve,(JrP t _ y hy).1]
end
mutual
theorem Joy:∀(t:Ty) (r:Room) (t':Ty),tyF cs U r t=.ok t'->∀ ds,KX ds t'=KX ds t
 | .mk k n u e p a,r,t',h,ds=>by rw[tyF]at h;obtain⟨e',he,h⟩:=Jd h;obtain⟨p',hp,h⟩:=Jd h;cases h;have h1:=JkX e e' he ds;simp only[KX,h1]
theorem JkX:∀(l:List Ty) (l':List Ty),YV cs U l=.ok l'->∀ ds,YN ds l'=YN ds l
 | [],l',h,ds=>by rw[YV]at h;cases h;rfl
 | t::l,l',h,ds=>by rw[YV]at h;obtain⟨y,hy,h⟩:=Jd h;obtain⟨m,hm,h⟩:=Jd h;cases h;simp only[YN,Joy t _ y hy ds,JkX l m hm ds]
end
end
def all2{α:Type}(R:α->α->Prop):List α->List α->Prop
 | [],[]=>True
 | x::l,y::m=>R x y/\all2 R l m
 | _,_=>False
theorem all2.len{α:Type}{R:α->α->Prop}:∀{l m:List α},all2 R l m->m.length=l.length
 | [],[],_=>rfl
 | x::l,y::m,h=>by simp only[Ad,all2.len h.2]
 | [],_::_,h=>h.elim
 | _::_,[],h=>h.elim
theorem all2.get{α:Type}{R:α->α->Prop}:∀{l m:List α} {i:Nat} {x:α},all2 R l m->l[i]? = some x->∃ y,m[i]? = some y/\R x y
 | [],[],_,_,_,h=>ED
 | x::l,y::m,0,z,h,hi=>by simp only[Am,V]at hi;subst hi;exact⟨y,rfl,h.1⟩
 | x::l,y::m,i+1,z,h,hi=>by simp only[BA]at hi |-;exact all2.get h.2 hi
 | [],_::_,_,_,h,_=>h.elim
 | _::_,[],_,_,h,_=>h.elim
theorem all2.get'{α:Type}{R:α->α->Prop}:∀{l m:List α} {i:Nat} {y:α},all2 R l m->m[i]? = some y->∃ x,l[i]? = some x/\R x y
 | [],[],_,_,_,h=>ED
 | x::l,y::m,0,z,h,hi=>by simp only[Am,V]at hi;subst hi;exact⟨x,rfl,h.1⟩
 | x::l,y::m,i+1,z,h,hi=>by simp only[BA]at hi |-;exact all2.get' h.2 hi
 | [],_::_,_,_,h,_=>h.elim
 | _::_,[],_,_,h,_=>h.elim
def HdT(t t':Ty):Prop:=V6 t'=V6 t/\nmT t'=nmT t/\QV t'=QV t/\∀ cs,KX cs t'=KX cs t
def HdP(p p':Par):Prop:=p'.name=p.name/\HdT p.type p'.type/\p'.at_=p.at_
def HdM(m m':Mth):Prop:=m'.name=m.name/\all2 HdP m.params m'.params/\HdT m.result m'.result/\m'.at_=m.at_/\m'.abs=m.abs
def HdF(f f':Fld):Prop:=f'.name=f.name/\HdT f.type f'.type/\f'.at_=f.at_/\f'.fin=f.fin
def HdK(k k':Ctr):Prop:=all2 HdP k.params k'.params/\k'.at_=k.at_
structure HdC(c c':Cls):Prop where
 nm:c'.name=c.name
 ifc:c'.iface=c.iface
 sup:c'.super=c.super
 abv:c'.above=c.above
 at_:c'.at_=c.at_
 fld:all2 HdF c.fields c'.fields
 ctr:all2 HdK c.ctors c'.ctors
 mth:all2 HdM c.meths c'.meths
 inv:c'.invs.length=c.invs.length
section
variable {cs cs':List Cls}
theorem Jmu{m m':Mth}(h:HdM m m'):Vx m'.name m'.params=Vx m.name m.params:=by
 obtain⟨h1,h2,-⟩:=h;have:∀(l l':List Par),all2 HdP l l'->(l'.map λp=>QV p.type)=l.map λp=>QV p.type:=by
  intro l;induction l with
  | nil=>
   intro l' h;cases l' with
   | nil=>rfl
   | cons y m=>exact h.elim
  | cons x l ih=>
   intro l' h;cases l' with
   | nil=>exact h.elim
   | cons y m=>simp only[Ap,ih m h.2,h.1.2.1.2.2.1]
 unfold Vx;rw[h1,this _ _ h2]
theorem Yk(s:Jk):∀{cs cs':List Cls},all2 HdC cs cs'->J6 cs' s=J6 cs s
 | [],[],_=>rfl
 | c::cs,c'::cs',h=>by simp only[J6,h.1.nm,Yk s h.2]
 | [],_::_,h=>h.elim
 | _::_,[],h=>h.elim
theorem F5{Q:Prop}(h:Q:=by rw[h.len];exact BJ.1 hc):Q:=h
theorem Jmv(h:all2 HdC cs cs')(i:Nat):nxt cs' i=nxt cs i:=by
 unfold nxt;cases hc:cs[i]? with
 | none=>rw[A5 F5]
 | some c=>obtain⟨c',hc',hd⟩:=h.get hc;rw[hc'];simp only[Jpn,hd.sup,hd.abv,Yk _ h]
theorem Jv7(h:all2 HdC cs cs'){i k:Nat}:Up cs' i k↔Up cs i k:=by
 constructor
 ·intro hu;induction hu with
  | one h1=>exact .one (Jmv h i ▸ h1)
  | more _ h2 ih=>exact .more ih (Jmv h _ ▸ h2)
 ·intro hu;induction hu with
  | one h1=>exact .one ((Jmv h i).symm ▸ h1)
  | more _ h2 ih=>exact .more ih ((Jmv h _).symm ▸ h2)
theorem HdT.rfl{t:Ty}:HdT t t:=⟨Eq.refl _,Eq.refl _,Eq.refl _,λ_=>Eq.refl _⟩
theorem JR0(h:all2 HdC cs cs')(i:Nat):Z9 cs' i=Z9 cs i:=by
 unfold Z9;cases hc:cs[i]? with
 | none=>rw[A5 F5]
 | some c=>obtain⟨c',hc',hd⟩:=h.get hc;rw[hc'];exact hd.sup
theorem JkY(h:all2 HdC cs cs'):∀(k:Nat) (s:Jk),XB cs' k s=XB cs k s
 | 0,_=>rfl
 | k+1,s=>by
  simp only[XB];rw[Yk _ h];cases J6 cs s with
  | none=>rfl
  | some i=>simp only;rw[JR0 h,JkY h k]
theorem Joz(h:all2 HdC cs cs')(s:Jk):KZ cs' s=KZ cs s:=by unfold KZ;rw[h.len,JkY h]
theorem JoA(h:all2 HdC cs cs')(U:List (List Nat))(s:Jk):QC cs' U s=QC cs U s:=by
 unfold QC;rw[Yk _ h];cases J6 cs s with
 | none=>rfl
 | some i=>
  simp only;cases hc:cs[i]? with
  | none=>rw[A5 F5]
  | some c=>obtain⟨c',hc',hd⟩:=h.get hc;rw[hc'];simp only[hd.ifc,Joz h]
theorem JrQ(sig:Jk):∀{l l':List Mth},all2 HdM l l'->(∀ m,JaG sig l=some m->∃ m',JaG sig l'=some m'/\HdM m m')/\(JaG sig l=none->JaG sig l'=none)
 | [],[],_=>⟨λm h=>(by simp[JaG]at h),λ_=>rfl⟩
 | m::l,m'::l',h=>by
  obtain⟨h1,h2⟩:=JrQ sig h.2;simp only[JaG,Jmu h.1];by_cases hs:Vx m.name m.params=sig
  ·rw[if_pos hs,if_pos hs];exact⟨λx hx=>by simp only[V]at hx;subst hx;exact⟨m',rfl,h.1⟩,λh=>EB⟩
  ·rw[if_neg hs,if_neg hs];exact⟨h1,h2⟩
 | [],_::_,h=>h.elim
 | _::_,[],h=>h.elim
theorem JrR(h:all2 HdC cs cs')(i:Nat)(sig:Jk):(∀ m,Zb cs i sig=some m->∃ m',Zb cs' i sig=some m'/\HdM m m')/\(Zb cs i sig=none->Zb cs' i sig=none):=by
 unfold Zb;cases hc:cs[i]? with
 | none=>rw[A5 F5];exact⟨λm h=>EB,λ_=>rfl⟩
 | some c=>obtain⟨c',hc',hd⟩:=h.get hc;rw[hc'];exact JrQ sig hd.mth
theorem Jp7(h:all2 HdC cs cs')(sig:Jk):∀(l:List Nat),(∀ j m,ZQ cs sig l=some (j,m)->∃ m',ZQ cs' sig l=some (j,m')/\HdM m m')/\(ZQ cs sig l=none->ZQ cs' sig l=none)
 | []=>⟨λj m h=>EB,λ_=>rfl⟩
 | i::l=>by
  obtain⟨h1,h2⟩:=Jp7 h sig l;obtain⟨h3,h4⟩:=JrR h i sig;simp only[ZQ];cases ho:Zb cs i sig with
  | none=>rw[h4 ho];exact⟨h1,h2⟩
  | some m=>obtain⟨m',ho',hm⟩:=h3 m ho;rw[ho'];exact⟨λj x hx=>by simp only[V,AP]at hx;obtain⟨rfl,rfl⟩:=hx;exact⟨m',rfl,hm⟩,λh=>EB⟩
end
theorem Jv9{cs:List Cls}{U:List (List Nat)}{r:Room}{t t':Ty}(h:tyF cs U r t=.ok t'):HdT t t':=by obtain⟨h1,h2,h3,h4⟩:=JrP cs U t r t' h;exact⟨h3,h4,h2,Joy cs U t r t' h⟩
mutual
theorem Jfp{cs cs':List Cls}(h:∀ s,J6 cs' s=J6 cs s):∀ t:Ty,KX cs' t=KX cs t
 | .mk k n u e p a=>by simp only[KX,h,JkZ h e]
theorem JkZ{cs cs':List Cls}(h:∀ s,J6 cs' s=J6 cs s):∀ t:List Ty,YN cs' t=YN cs t
 | []=>rfl
 | t::l=>by simp only[YN,Jfp h t,JkZ h l]
end
theorem all2.take{α:Type}{R:α->α->Prop}:∀{l m:List α} (k:Nat),all2 R l m->all2 R (l.take k) (m.take k)
 | l,m,0,_=>by simp only[AL,all2]
 | [],[],k+1,_=>by simp only[List.take_nil,all2]
 | x::l,y::m,k+1,h=>by simp only[Ay,all2];exact⟨h.1,all2.take k h.2⟩
 | [],_::_,_+1,h=>h.elim
 | _::_,[],_+1,h=>h.elim
theorem all2.any{α:Type}{R:α->α->Prop}{f g:α->Bool}(hf:∀ x y,R x y->g y=f x):∀{l m:List α},all2 R l m->m.any g=l.any f
 | [],[],_=>rfl
 | x::l,y::m,h=>by simp only[List.any_cons,hf x y h.1,all2.any hf h.2]
 | [],_::_,h=>h.elim
 | _::_,[],h=>h.elim
theorem VT{α:Type}{R:α->α->Prop}{f g:Nat->α->Int×Int}(hf:∀ i x y,R x y->g i y=f i x):∀{l m:List α} (i:Nat),all2 R l m->JY g i m=JY f i l
 | [],[],_,_=>rfl
 | x::l,y::m,i,h=>by simp only[JY,hf i x y h.1,VT hf (i+1) h.2]
 | [],_::_,_,h=>h.elim
 | _::_,[],_,h=>h.elim
theorem Jdt{α:Type}{f g:Nat->α->Int×Int}(hf:∀ i x,g i x=f i x):∀(l:List α) (i:Nat),JY g i l=JY f i l
 | [],_=>rfl
 | x::l,i=>by simp only[JY,hf,Jdt hf l]
section
variable {cs cs':List Cls}
theorem JR1(h:all2 HdC cs cs'):JiL cs'=JiL cs:=by refine VT (λi c d hd=>?_) 0 h;have h1:JY Jps 0 d.ctors=JY Jps 0 c.ctors:=VT (λi x y hk=>by simp only[Jps,hk.1.len,hk.2]) 0 hd.ctr;have h2:JY JnB 0 d.meths=JY JnB 0 c.meths:=VT (λi x y hk=>by simp only[JnB,hk.2.1.len,hk.2.2.2.1]) 0 hd.mth;simp only[Jpt,h1,h2,hd.fld.len,hd.inv,hd.mth.len,hd.abv,hd.at_]
theorem JR2(h:all2 HdC cs cs'):JlW cs'=JlW cs:=by refine VT (λi c d hd=>?_) 0 h;simp only[JuL,hd.nm,hd.at_,Yk _ (h.take i)]
theorem Jwa(h:all2 HdC cs cs')(s:Jk):Je5 cs' s=Je5 cs s:=by
 unfold Je5;rw[Yk _ h];cases J6 cs s with
 | none=>rfl
 | some i=>
  simp only[Co];cases hc:cs[i]? with
  | none=>rw[A5 F5]
  | some c=>obtain⟨c',hc',hd⟩:=h.get hc;rw[hc'];simp only[A9,hd.ifc]
theorem JR3(h:all2 HdC cs cs'):JiQ cs'=JiQ cs:=by
 refine VT (λi c d hd=>?_) 0 h;have h1:JY (JnD cs' d) 0 d.above=JY (JnD cs c) 0 c.above:=by rw[hd.abv];exact Jdt (λi a=>by simp only[JnD,Jwa h,hd.at_]) _ 0
 simp only[Jss,h1,hd.sup,Jwa h,hd.at_]
theorem JR4(h:all2 HdC cs cs'):Jhf cs'=Jhf cs:=by
 refine VT (λi c d hd=>?_) 0 h;unfold Jpz;by_cases hu:Up cs i i
 ·rw[if_pos hu,if_pos ((Jv7 h).2 hu),hd.at_]
 ·rw[if_neg hu,if_neg (λx=>hu ((Jv7 h).1 x))]
theorem Jwb(h:all2 HdC cs cs'){l m:List Par}(hl:all2 HdP l m):JnJ cs' m=JnJ cs l:=by refine VT (λi p q hp=>?_) 0 hl;have h1:(m.take i).any (λz=>z.name == q.name)=(l.take i).any (λz=>z.name == p.name):=all2.any (λx y hxy=>by rw[hxy.1,hp.1]) (hl.take i);simp only[JuH,h1,hp.2.2,hp.2.1.2.2.2,Jfp (λs=>Yk s h)]
theorem JDo(h:all2 HdC cs cs')(U:List (List Nat))(i:Nat){c d:Cls}(hd:HdC c d)(k:Nat){m n:Mth}(hm:HdM m n):Jfa cs' U i d k n=Jfa cs U i c k m:=by
 have hs:=Jmu hm;have h1:(d.meths.take k).any (λx=>Vx x.name x.params == Vx n.name n.params)=(c.meths.take k).any (λx=>Vx x.name x.params == Vx m.name m.params):=all2.any (λx y hxy=>by rw[Jmu hxy,hs]) (hd.mth.take k);have h2:JY (JnM cs' n) 0 (U.getD i [])=JY (JnM cs m) 0 (U.getD i []):=Jdt (λj a=>by
  simp only[JnM,hs];obtain⟨h3,h4⟩:=JrR h a (Vx m.name m.params);cases ho:Zb cs a (Vx m.name m.params)with
  | none=>rw[h4 ho]
  | some x=>obtain⟨x',hx',hx⟩:=h3 x ho;rw[hx'];simp only[hx.2.2.1.2.2.1,hm.2.2.1.2.2.1,hm.2.2.2.1]) _ 0
 simp only[Jfa,h1,h2,Jwb h hm.2.1,hm.2.2.1.2.2.2,Jfp (λs=>Yk s h),hm.2.2.2.1]
theorem JrS(nm:Jk):∀{l m:List Fld},all2 HdF l m->(∀ f,JdB nm l=some f->∃ g,JdB nm m=some g/\HdF f g)/\(JdB nm l=none->JdB nm m=none)
 | [],[],_=>⟨λf h=>by simp[JdB]at h,λ_=>rfl⟩
 | x::l,y::m,h=>by
  obtain⟨h1,h2⟩:=JrS nm h.2;simp only[JdB,h.1.1];by_cases hx:x.name=nm
  ·rw[if_pos hx,if_pos hx];exact⟨λf hf=>by simp only[V]at hf;subst hf;exact⟨y,rfl,h.1⟩,λh=>EB⟩
  ·rw[if_neg hx,if_neg hx];exact⟨h1,h2⟩
 | [],_::_,h=>h.elim
 | _::_,[],h=>h.elim
theorem JrT(h:all2 HdC cs cs')(nm:Jk):∀(l:List Nat),(∀ o f,Zi cs nm l=some (o,f)->∃ g,Zi cs' nm l=some (o,g)/\HdF f g)/\(Zi cs nm l=none->Zi cs' nm l=none)
 | []=>⟨λo f h=>by simp[Zi]at h,λ_=>rfl⟩
 | i::l=>by
  obtain⟨h1,h2⟩:=JrT h nm l;have h3:(∀ o f,Jhg cs nm i=some (o,f)->∃ g,Jhg cs' nm i=some (o,g)/\HdF f g)/\(Jhg cs nm i=none->Jhg cs' nm i=none):=by
   unfold Jhg;cases hc:cs[i]? with
   | none=>rw[A5 F5];exact⟨λo f h=>EB,λ_=>rfl⟩
   | some c=>
    obtain⟨c',hc',hd⟩:=h.get hc;rw[hc'];obtain⟨h5,h6⟩:=JrS nm hd.fld;simp only;cases hf:JdB nm c.fields with
    | none=>rw[h6 hf];exact⟨λo f h=>ED,λ_=>rfl⟩
    | some f=>obtain⟨g,hg,hfg⟩:=h5 f hf;rw[hg];simp only[A9,V,AP,reduceCtorEq,false_implies,and_true];rintro o f' ⟨rfl,rfl⟩;exact⟨g,⟨hd.nm,rfl⟩,hfg⟩
  simp only[Zi];cases hf:Jhg cs nm i with
  | none=>rw[h3.2 hf];exact⟨h1,h2⟩
  | some r=>obtain⟨o,f⟩:=r;obtain⟨g,hg,hfg⟩:=h3.1 o f hf;rw[hg];refine⟨λo' f' h=>?_,λh=>EB⟩;simp only[V,AP]at h;obtain⟨rfl,rfl⟩:=h;exact⟨g,rfl,hfg⟩
theorem JR5(h:all2 HdC cs cs')(U:List (List Nat))(i:Nat){c d:Cls}(hd:HdC c d):JfZ cs' U i d=JfZ cs U i c:=by
 have h1:JY (JnP cs' d) 0 d.fields=JY (JnP cs c) 0 c.fields:=VT (λk x y hxy=>by
  have h2:(d.fields.take k).any (λg=>g.name == y.name)=(c.fields.take k).any (λg=>g.name == x.name):=all2.any (λa b hab=>by rw[hab.1,hxy.1]) (hd.fld.take k);have h3:(Zi cs' x.name (KZ cs c.super)).isSome=(Zi cs x.name (KZ cs c.super)).isSome:=by
   obtain⟨h4,h5⟩:=JrT h x.name (KZ cs c.super);cases hf:Zi cs x.name (KZ cs c.super)with
   | none=>rw[h5 hf]
   | some r=>obtain⟨o,f⟩:=r;obtain⟨g,hg,-⟩:=h4 o f hf;rw[hg];rfl
  rw[hxy.1]at h2;simp only[JnP,hxy.1,h2,hd.sup,Joz h,h3,hxy.2.2.1,hxy.2.1.2.2.2,Jfp (λs=>Yk s h)]) 0 hd.fld
 have h2:JY (JnQ cs') 0 d.ctors=JY (JnQ cs) 0 c.ctors:=VT (λk x y hxy=>by simp only[JnQ,hxy.2,Jwb h hxy.1]) 0 hd.ctr;have h3:JY (Jfa cs' U i d) 0 d.meths=JY (Jfa cs U i c) 0 c.meths:=VT (R:=HdM) (λk x y hxy=>JDo h U i hd k hxy) 0 hd.mth;simp only[JfZ,h1,h2,h3]
theorem JR6(h:all2 HdC cs cs')(U:List (List Nat))(i:Nat){c d:Cls}(hd:HdC c d):Jfc cs' U i d=Jfc cs U i c:=by
 refine Jdt (λj a=>?_) _ 0;unfold JsH;cases hc:cs[a]? with
 | none=>rw[A5 F5]
 | some e=>
  obtain⟨e',he',hde⟩:=h.get hc;rw[he'];have h1:JY (JpG cs' U d) 0 e'.meths=JY (JpG cs U c) 0 e.meths:=VT (λk x y hxy=>by
   simp only[JpG,hd.nm,Jmu hxy];obtain⟨h3,h4⟩:=Jp7 h (Vx x.name x.params) (QC cs U c.name);have hr:XL cs' U c.name (Vx x.name x.params)=ZQ cs' (Vx x.name x.params) (QC cs U c.name):=by rw[XL,JoA h]
   rw[hr];cases ho:XL cs U c.name (Vx x.name x.params)with
   | none=>rw[h4 ho];simp only[hd.at_]
   | some r=>obtain⟨j,m⟩:=r;obtain⟨m',hm',hmm⟩:=h3 j m ho;rw[hm'];simp only[hmm.2.2.1.2.2.1,hxy.2.2.1.2.2.1,hd.at_]) 0 hde.mth
  simp only[hde.ifc,h1]
theorem JR7(h:all2 HdC cs cs')(U:List (List Nat)):JbV cs' U=JbV cs U:=by have h1:JY (JfZ cs' U) 0 cs'=JY (JfZ cs U) 0 cs:=VT (R:=HdC) (λk x y hxy=>JR5 h U k hxy) 0 h;have h2:JY (Jfc cs' U) 0 cs'=JY (Jfc cs U) 0 cs:=VT (R:=HdC) (λk x y hxy=>JR6 h U k hxy) 0 h;simp only[JbV,JR1 h,JR2 h,JR3 h,JR4 h,h1,h2]
theorem JoB(h:all2 HdC cs cs'):QD cs'=QD cs:=by unfold QD;rw[h.len];refine Dq λi _=>List.filter_congr λk _=>?_;exact decide_eq_decide.2 (Jv7 h)
end
theorem Jwc{op n:Jk}{l:List Xp}{ty:List Ty}(ho:op=[110,117,109]\/op=[114,101,97,100]\/op=[116,114,117,101]\/op=[102,97,108,115,101]\/op=[110,117,108,108]\/op=[116,104,105,115]\/op=[118,97,114])(h:JbM op n l ty):l=[]:=by
 unfold JbM at h;rcases h with⟨-,q,-⟩ |⟨-,q,-⟩ |⟨-,q,-⟩ |⟨q,-⟩ |⟨q,-⟩ |⟨q,-⟩ |⟨q,-⟩ |⟨q,-⟩ |⟨q,-⟩ |⟨q,-⟩ |⟨q,-⟩
 ·exact q
 ·exact q
 ·exact q
 ·subst q;exact absurd ho Aj
 ·subst q;exact absurd ho Aj
 ·subst q;exact absurd ho Aj
 ·subst q;exact absurd ho Aj
 ·subst q;exact absurd ho Aj
 ·subst q;exact absurd ho Aj
 ·rcases q with q |q <;> subst q <;> exact absurd ho Aj
 ·rcases ho with ho |ho |ho |ho |ho |ho |ho <;> subst ho <;> exact absurd q Aj
theorem JDp{n:Jk}{l:List Xp}{ty:List Ty}(h:JbM [99,97,108,108] n l ty):∃ a m,l=a::m:=by
 unfold JbM at h;rcases h with⟨q,-⟩ |⟨q,-⟩ |⟨q,-⟩ |⟨q,-⟩ |⟨q,-⟩ |⟨q,-⟩ |⟨q,-⟩ |⟨-,q,-⟩ |⟨q,-⟩ |⟨q,-⟩ |⟨q,-⟩
 ·exact absurd q Aj
 ·exact absurd q Aj
 ·exact absurd q Aj
 ·exact absurd q Aj
 ·exact absurd q Aj
 ·exact absurd q Aj
 ·exact absurd q Aj
 ·exact q
 ·exact absurd q Aj
 ·exact absurd q Aj
 ·exact absurd q Aj
theorem Jk0{cs:List Cls}{U:List (List Nat)}:∀{l:List Xp} {ps:List Par},KS cs U l ps=true->ps.length=l.length/\∀(k:Nat) (e:Xp) (p:Par),l[k]? = some e->ps[k]? = some p->Vd cs U (Q4 e) p.type=true
 | [],[],_=>⟨rfl,λk e p h=>ED⟩
 | [],_::_,h=>by simp[KS]at h
 | _::_,[],h=>by simp[KS]at h
 | x::l,p::ps,h=>by
  simp only[KS,Ah]at h;obtain⟨h1,h2⟩:=Jk0 h.2;refine⟨by simp[h1],λk e q he hq=>?_⟩;cases k with
  | zero=>simp only[Am,V]at he hq;subst he hq;exact h.1
  | succ k=>simp only[BA]at he hq;exact h2 k e q he hq
section
variable (cs:List Cls) (U:List (List Nat))
def Jgc(n:Jk)(l:List Xp):Prop:=∃(on:Xp) (rest:List Xp) (j:Nat) (m:Mth),l=on::rest/\XL cs U (nmT (Q4 on)) n=some (j,m)/\m.params.length=rest.length /\
 ∀(k:Nat) (e:Xp) (p:Par),rest[k]? = some e->m.params[k]? = some p->Vd cs U (Q4 e) p.type=true/\Zm (Q4 e)
mutual
def gdX:Xp->Prop
 | .mk op n l _ _=>ZW l/\l.length<=64800000/\(op=[99,97,108,108]->Jgc cs U n l)
def ZW:List Xp->Prop
 | []=>True
 | x::l=>gdX x/\ZW l
end
mutual
def gdS:Sm->Prop
 | .mk _ _ _ exs b e _=>(ZW cs U exs/\exs.length<=64800000)/\(Z6 b/\b.length<=64800000)/\Z6 e/\e.length<=64800000
def Z6:List Sm->Prop
 | []=>True
 | s::l=>gdS s/\Z6 l
end
end
theorem Yl{cs:List Cls}{U:List (List Nat)}{kind n:Jk}{ty:List Ty}{exs:List Xp}{a:Int}(h:ZW cs U exs)(hl:exs.length<=64800000):gdS cs U (.mk kind n ty exs [] [] a):=by simp only[gdS,Z6];exact⟨⟨h,hl⟩,⟨trivial,Ag⟩,trivial,Ag⟩
theorem JoD{cs:List Cls}{U:List (List Nat)}{x:Xp}(h:gdX cs U x):ZW cs U [x]:=by simp only[ZW];exact⟨h,trivial⟩
theorem JjB:∀ l:List Xp,l.length<=KE l
 | []=>Ag
 |⟨_,_,_,_,_⟩::l=>by have:=JjB l;simp only[KE,VY,Ad];omega
theorem Jen:∀ l:List Sm,l.length<=Qj l
 | []=>Ag
 |⟨_,_,_,_,_,_,_⟩::l=>by have:=Jen l;simp only[Qj,wSm,Ad];omega
theorem Jgd{cs:List Cls}{U:List (List Nat)}:∀{l:List Sm} {r:Room} {l':List Sm},blF cs U r l=.ok l'->l'.length=l.length
 | [],r,l',h=>by rw[blF]at h;cases h;rfl
 | s::l,r,l',h=>by rw[blF]at h;obtain⟨x,hx,h⟩:=Jd h;obtain⟨m,hm,h⟩:=Jd h;cases h;simp only[Ad,Jgd hm]
theorem Jp8{cs:List Cls}{U:List (List Nat)}:∀(l:List Xp) (r:Room) (l':List Xp),Qg cs U r l=.ok l'->l'.length=l.length
 | [],r,l',h=>by rw[Qg]at h;cases h;rfl
 | x::l,r,l',h=>by rw[Qg]at h;obtain⟨y,hy,h⟩:=Jd h;obtain⟨m,hm,h⟩:=Jd h;cases h;simp only[Ad,Jp8 l r m hm]
section
variable {cs:List Cls} {U:List (List Nat)}
mutual
theorem Jk1(C:Cst cs U):∀(x:Xp) (r:Room) (x':Xp),RmOk r->Q7 x->VY x<=64800000->exF cs U r x=.ok x'->gdX cs U x'
 | .mk op n l ty a,r,x',hr,hw,hv,h=>by
  obtain⟨-,h⟩:=Jdq h;simp only[Q7]at hw;have hvl:KE l<=64800000:=by simp only[VY]at hv;omega
  have leaf:(op=[110,117,109]\/op=[114,101,97,100]\/op=[116,114,117,101]\/op=[102,97,108,115,101]\/op=[110,117,108,108]\/op=[116,104,105,115]\/op=[118,97,114])->∀ t,gdX cs U (.mk op n l t a):=λho t=>by have hl:=Jwc ho hw.1;simp only[gdX,hl,ZW,true_and];refine⟨Ag,λe=>?_⟩;subst e;exact absurd ho Aj
  rcases h with⟨o,rfl⟩ |⟨o,rfl⟩ |⟨o,rfl⟩ |⟨o,ht,rfl⟩ |⟨o,v,hf,rfl⟩ |⟨o,c,l',h1,h2,h3,h4,rfl⟩ |⟨o,ty',l',h1,h2,rfl⟩ |⟨-,-,-,-,-,-,-,-,n1,l',hl,h⟩
  ·exact leaf (by rcases o with o |o <;> simp[o]) _
  ·exact leaf (by rcases o with o |o <;> simp[o]) _
  ·exact leaf (by simp[o]) _
  ·exact leaf (by simp[o]) _
  ·exact leaf (by simp[o]) _
  ·simp only[gdX];exact⟨Jmw C l r _ l' hr hw.2.1 hvl h3,by have:=(Jje U C.ok l r _ l' hr hw.2.1 hvl h3).2;have:=JjB l;omega,λe=>by subst o;exact absurd e Aj⟩
  ·simp only[gdX];exact⟨Jmw C l r _ l' hr hw.2.1 hvl h2,by have:=(Jje U C.ok l r _ l' hr hw.2.1 hvl h2).2;have:=JjB l;omega,λe=>by subst o;exact absurd e Aj⟩
  ·have hg:=Jmw C l r _ l' hr hw.2.1 hvl hl;obtain⟨hX,hll⟩:=Jje U C.ok l r _ l' hr hw.2.1 hvl hl;have hl5:l'.length<=64800000:=by have:=JjB l;omega
   by_cases c1:op=[99,97,108,108]
   ·unfold YU at h;rw[if_neg (by subst c1;decide),if_pos c1]at h;obtain⟨m,hm,-,ht,rfl⟩:=JgZ h;subst c1;obtain⟨x0,m0,hl0⟩:=JDp hw.1;cases l' with
    | nil=>rw[hl0]at hll;simp at hll
    | cons on rest=>simp only[DM,List.tail_cons]at hm ht;obtain⟨j,hj,-⟩:=Jds.1 hm;obtain⟨h1,h2⟩:=Jk0 ht;simp only[gdX];exact⟨hg,hl5,λ_=>⟨on,rest,j,m.2.2,rfl,hj,h1,λk e p he hp=>⟨h2 k e p he hp,hX e (A7 _ (Aq he))⟩⟩⟩
   ·obtain⟨ty',rfl⟩:=Jb1 c1 h;simp only[gdX];exact⟨hg,hl5,λe=>absurd e c1⟩
theorem Jmw(C:Cst cs U):∀(l:List Xp) (r:Room) (k:Option Int) (l':List Xp),RmOk r->KP l->KE l<=64800000->QH cs U r k l=.ok l'->ZW cs U l'
 | [],r,k,l',_,_,_,h=>by rw[QH]at h;cases h;simp only[ZW]
 | x::l,r,k,l',hr,hw,hv,h=>by
  rw[QH]at h;obtain⟨y,hy,h⟩:=Jd h;simp only[KP]at hw;simp only[KE]at hv;have h1:=Jk1 C x r y hr hw.1 O hy;have h2:∃ m,QH cs U r none l=.ok m/\l'=y::m:=by
   cases k with
   | none=>obtain⟨m,hm,h⟩:=Jd h;cases h;exact⟨m,hm,rfl⟩
   | some k=>
    simp only at h;split at h
    ·cases h
    ·obtain⟨m,hm,h⟩:=Jd h;cases h;exact⟨m,hm,rfl⟩
  obtain⟨m,hm,rfl⟩:=h2;simp only[ZW];exact⟨h1,Jmw C l r none m hr hw.2 O hm⟩
end
theorem YQ(C:Cst cs U){r:Room}{x y:Xp}{t:Ty}(hr:RmOk r)(hw:Q7 x)(hv:VY x<=64800000)(h:QQ cs U r x t=.ok y):gdX cs U y:=by obtain⟨z,hz,h⟩:=Jd h;obtain⟨rfl,-⟩:=Jjd h;exact Jk1 C x r _ hr hw hv hz
theorem JoE(C:Cst cs U):∀(l:List Xp) (r:Room) (l':List Xp),RmOk r->KP l->KE l<=64800000->Qg cs U r l=.ok l'->ZW cs U l'
 | [],r,l',_,_,_,h=>by rw[Qg]at h;cases h;simp only[ZW]
 | x::l,r,l',hr,hw,hv,h=>by rw[Qg]at h;obtain⟨y,hy,h⟩:=Jd h;obtain⟨m,hm,h⟩:=Jd h;cases h;simp only[KP]at hw;simp only[KE]at hv;simp only[ZW];exact⟨YQ C (Jrc hr true) hw.1 O hy,JoE C l r m hr hw.2 O hm⟩
mutual
theorem JEt(C:Cst cs U):∀(s:Sm) (r:Room) (x:Sm×Room),Ja0 s->RmOk r->wSm s<=64800000->XD cs U r s=.ok x->gdS cs U x.1/\RmOk x.2
 | .mk kind n ty exs b e a,r,x,hok,hr,hw,h=>by
  simp only[Ja0]at hok;obtain⟨hk,hty,hex,hb,he⟩:=hok;have hty:=JiJ _ hty;have hex:=JbO _ hex;have hvt:=Jny ty;have hve:=Je3 exs;simp only[wSm]at hw;have ib:=λl' h=>JjC C b r l' hb hr O h;have ie:=λl' h=>JjC C e r l' he hr O h;have rm:kind≠[108,101,116]->RmOk x.2:=λhn=>by rw[Jn2 hn h];exact hr
  unfold Jd2 at hk;rcases hk with⟨rfl,-,hle,⟨x0,rfl⟩,rfl,rfl⟩ |⟨rfl,-,rfl,⟨x0,rfl⟩,rfl,rfl⟩ |⟨rfl,-,rfl,⟨x0,y0,rfl⟩,rfl,rfl⟩ |⟨rfl,-,rfl,⟨x0,y0,z0,rfl⟩,rfl,rfl⟩ |⟨rfl,-,rfl,⟨x0,rfl⟩⟩ |⟨rfl,-,rfl,⟨x0,l0,rfl⟩,rfl⟩ |⟨rfl,-,rfl,hle,rfl,rfl⟩ |⟨hk,-,rfl,⟨x0,rfl⟩,rfl,rfl⟩
  ·simp only[KP,KE,AE,and_true]at hex hve;rw[XD,if_pos rfl]at h;refine⟨?_,(JkM C hr hty O hex O h).1⟩;unfold Jch at h;split at h
   ·cases h
   split at h
   ·obtain⟨_,-,h⟩:=Jd h;obtain⟨_,-,h⟩:=Jd h;obtain⟨y,hy,h⟩:=Jd h;cases h;exact Yl (JoD (YQ C hr hex O hy)) Ag
   ·obtain⟨y,hy,h⟩:=Jd h;split at h
    ·cases h
    ·cases h;exact Yl (JoD (Jk1 C x0 r _ hr hex O hy)) Ag
  ·simp only[KP,KE,AE,and_true]at hex hve;refine⟨?_,rm Aj⟩;rw[XD,if_neg Aj,if_pos rfl]at h;split at h
   ·cases h
   split at h
   ·cases h
   obtain⟨y,hy,h⟩:=Jd h;cases h;exact Yl (JoD (YQ C hr hex O hy)) Ag
  ·simp only[KP,KE,AE,and_true]at hex hve;refine⟨?_,rm Aj⟩;rw[XD,if_neg Aj,if_neg Aj,if_pos rfl]at h;obtain⟨y,hy,h⟩:=Jd h;obtain⟨f,hf,h⟩:=Jd h;split at h
   ·cases h
   obtain⟨z,hz,h⟩:=Jd h;cases h;exact Yl (by simp only[ZW,and_true];exact⟨Jk1 C x0 r _ hr hex.1 O hy,YQ C hr hex.2 O hz⟩) Ag
  ·simp only[KP,KE,AE,and_true]at hex hve;refine⟨?_,rm Aj⟩;rw[XD,if_neg Aj,if_neg Aj,if_neg Aj,if_pos rfl]at h;obtain⟨y,hy,h⟩:=Jd h;split at h
   ·cases h
   obtain⟨z,hz,h⟩:=Jd h;obtain⟨u,hu,h⟩:=Jd h;cases h;exact Yl (by simp only[ZW,and_true];exact⟨Jk1 C x0 r _ hr hex.1 O hy,YQ C hr hex.2.1 O hz,YQ C hr hex.2.2 O hu⟩) Ag
  ·simp only[KP,KE,AE,and_true]at hex hve;refine⟨?_,rm Aj⟩;rw[XD,if_neg Aj,if_neg Aj,if_neg Aj,if_neg Aj,if_pos rfl]at h;obtain⟨y,hy,h⟩:=Jd h;obtain⟨b',hb',h⟩:=Jd h;obtain⟨e',he',h⟩:=Jd h;cases h;have hlb:=Jgd hb';have hle:=Jgd he';have hwb:=Jen b;have hwe:=Jen e;simp only[gdS];exact⟨⟨JoD (YQ C hr hex O hy),Ag⟩,⟨ib _ hb',O⟩,ie _ he',O⟩
  ·simp only[KP,KE]at hex hve;refine⟨?_,rm Aj⟩;rw[XD,if_neg Aj,if_neg Aj,if_neg Aj,if_neg Aj,if_neg Aj,if_pos rfl]at h;obtain⟨y,hy,h⟩:=Jd h;obtain⟨l',hl',h⟩:=Jd h;obtain⟨b',hb',h⟩:=Jd h;cases h;have hlb:=Jgd hb';have hwb:=Jen b;have hpl:=Jp8 l0 r l' hl';have hvl:=JjB l0;simp only[gdS,ZW,Z6];exact⟨⟨⟨YQ C hr hex.1 O hy,JoE C l0 r l' hr hex.2 O hl'⟩,CR⟩,⟨ib _ hb',O⟩,trivial,Ag⟩
  ·refine⟨?_,rm Aj⟩;rw[XD,if_neg Aj,if_neg Aj,if_neg Aj,if_neg Aj,if_neg Aj,if_neg Aj,if_pos rfl]at h;obtain⟨s,hs,h⟩:=Jd h;cases h;unfold Jhi at hs;split at hs
   ·cases hs
   split at hs
   ·cases hs
   split at hs
   ·cases hs;exact Yl (by simp only[ZW]) Ag
   ·rename_i x1 l1 _;obtain⟨y,hy,hs⟩:=Jd hs;cases hs;simp only[KP,KE]at hex hve;exact Yl (JoD (YQ C hr hex.1 O hy)) Ag
  ·simp only[KP,KE,AE,and_true]at hex hve;rcases hk with rfl |rfl |rfl
   ·refine⟨?_,rm Aj⟩;rw[XD,if_neg Aj,if_neg Aj,if_neg Aj,if_neg Aj,if_neg Aj,if_neg Aj,if_neg Aj,if_pos rfl]at h;obtain⟨y,hy,h⟩:=Jd h;cases h;exact Yl (JoD (YQ C hr hex O hy)) Ag
   ·refine⟨?_,rm Aj⟩;rw[XD,if_neg Aj,if_neg Aj,if_neg Aj,if_neg Aj,if_neg Aj,if_neg Aj,if_neg Aj,if_neg Aj,if_pos rfl]at h;obtain⟨y,hy,h⟩:=Jd h;cases h;exact Yl (JoD (YQ C hr hex O hy)) Ag
   ·refine⟨?_,rm Aj⟩;rw[XD,if_neg Aj,if_neg Aj,if_neg Aj,if_neg Aj,if_neg Aj,if_neg Aj,if_neg Aj,if_neg Aj,if_neg Aj]at h;obtain⟨y,hy,h⟩:=Jd h;cases h;exact Yl (JoD (Jk1 C x0 r _ hr hex O hy)) Ag
theorem JjC(C:Cst cs U):∀(l:List Sm) (r:Room) (l':List Sm),Vf l->RmOk r->Qj l<=64800000->blF cs U r l=.ok l'->Z6 cs U l'
 | [],r,l',_,_,_,h=>by rw[blF]at h;cases h;simp only[Z6]
 | s::l,r,l',hok,hr,hw,h=>by rw[blF]at h;obtain⟨x,hx,h⟩:=Jd h;obtain⟨m,hm,h⟩:=Jd h;cases h;simp only[Vf]at hok;simp only[Qj]at hw;obtain⟨h1,h2⟩:=JEt C s r x hok.1 hr O hx;simp only[Z6];exact⟨h1,JjC C l x.2 m hok.2 h2 O hm⟩
end
end
structure MtOk(m:Mth):Prop where
 par:∀ p∈m.params,Vg p.type
 res:DTy m.result
 body:Vf m.body
 wp:wL V0 m.params<=64800000
 wb:Qj m.body<=64800000
 all:wL V0 m.params+Xg m.result+Qj m.body<=64800000
structure KtOk(k:Ctr):Prop where
 par:∀ p∈k.params,Vg p.type
 sup:QU k.super
 body:Vf k.body
 wp:wL V0 k.params<=64800000
 ws:KQ k.super<=64800000
 wb:Qj k.body<=64800000
 all:wL V0 k.params+KQ k.super+Qj k.body<=64800000
theorem JEu{m:Mth}(h:Jnd m)(hw:JcF m<=64800000):MtOk m:=by obtain⟨h1,h2,h3,h4,-⟩:=h;simp only[JcF]at hw;have h5:=JlP Jq0 m.params;have h6:=Jsq m.result;exact⟨λp hp=>JgO _ (h2 p hp).2,⟨h3.imp (JgO _) id,O⟩,h4,O,O,O⟩
theorem JEv{k:Ctr}(h:JtG k)(hw:Jhb k<=64800000):KtOk k:=by obtain⟨h1,h2,h3⟩:=h;simp only[Jhb]at hw;have h5:=JlP Jq0 k.params;exact⟨λp hp=>JgO _ (h1 p hp).2,h2,h3,O,O,O,O⟩
section
variable {cs:List Cls} {U:List (List Nat)}
theorem Jmx:∀(l:List Par) (r:Room) (x:Room×List Par),XE cs U r l=.ok x->all2 HdP l x.2/\((∀ p∈l,Jku p)->∀ p∈x.2,Jku p)/\wL V0 x.2=wL V0 l
 | [],r,x,h=>by rw[XE]at h;cases h;exact⟨trivial,λ_ p hp=>(by cases hp),rfl⟩
 | p::l,r,x,h=>by
  rw[XE]at h;obtain⟨t,ht,h⟩:=Jd h;obtain⟨y,hy,h⟩:=Jd h;cases h;obtain⟨h1,h2,h3⟩:=Jmx l _ y hy;obtain⟨k1,k2⟩:=JaV cs U _ _ _ ht;refine⟨⟨⟨rfl,Jv9 ht,rfl⟩,h1⟩,λhw q hq=>?_,?_⟩
  ·rcases AS.1 hq with rfl |hq
   ·exact⟨(hw p Ag).1,k1 (hw p Ag).2⟩
   ·exact h2 (λz hz=>hw z (by simp[hz])) q hq
  ·simp only[wL,V0,k2,h3]
theorem JR8{own:Room}{m m':Mth}(h:Jbp cs U own m=.ok m'):HdM m m'/\(JgN m->JgN m')/\JbN m'=JbN m:=by
 unfold Jbp at h;obtain⟨x,hx,h⟩:=Jd h;obtain⟨t,ht,h⟩:=Jd h;obtain⟨h1,h2,h3⟩:=Jmx _ _ _ hx;obtain⟨k1,k2⟩:=JaV cs U _ _ _ ht;have key:∀ b,HdM m {m with params:=x.2,result:=t,body:=b}/\(JgN m->JgN {m with params:=x.2,result:=t,body:=b})/\JbN {m with params:=x.2,result:=t,body:=b}=JbN m:=λb=>by
  refine⟨⟨rfl,h1,Jv9 ht,rfl,rfl⟩,λhw=>?_,by simp only[JbN,h3,k2]⟩;obtain⟨w1,w2,w3,-⟩:=hw;refine⟨w1,h2 w2,?_,trivial⟩;rcases w3 with w |⟨a,ha⟩
  ·exact .inl (k1 w)
  ·rw[ha,Jn3]at ht;cases ht;exact .inr ⟨a,rfl⟩
 split at h
 ·cases h;exact key m.body
 ·obtain⟨b,hb,h⟩:=Jd h;split at h
  ·cases h
  ·cases h;exact key b
theorem JR9{c:Cls}{k k':Ctr}(h:Jbq cs U c k=.ok k'):HdK k k'/\(Jnx k->Jnx k')/\JcM k'=JcM k:=by
 unfold Jbq at h;obtain⟨x,hx,h⟩:=Jd h;obtain⟨s,hs,h⟩:=Jd h;obtain⟨h1,h2,h3⟩:=Jmx _ _ _ hx;split at h
 ·cases h
 obtain⟨y,hy,h⟩:=Jd h;split at h
 ·cases h
 ·cases h;exact⟨⟨h1,rfl⟩,h2,by simp only[JcM,h3]⟩
theorem ZX{α:Type}{f:α->Er α}:∀{l m:List α},QZ f l=.ok m->all2 (λx y=>f x=.ok y) l m
 | [],m,h=>by rw[QZ]at h;cases h;trivial
 | x::l,m,h=>by rw[QZ]at h;obtain⟨y,hy,h⟩:=Jd h;obtain⟨k,hk,h⟩:=Jd h;cases h;exact⟨hy,ZX hk⟩
theorem all2.imp{α:Type}{R S:α->α->Prop}(hi:∀ x y,R x y->S x y):∀{l m:List α},all2 R l m->all2 S l m
 | [],[],_=>trivial
 | x::_l,y::_m,h=>⟨hi x y h.1,all2.imp hi h.2⟩
 | [],_::_,h=>h.elim
 | _::_,[],h=>h.elim
theorem all2.wL{α:Type}{R:α->α->Prop}{w:α->Nat}(hw:∀ x y,R x y->w y=w x):∀{l m:List α},all2 R l m->Ai.wL w m=Ai.wL w l
 | [],[],_=>rfl
 | x::l,y::m,h=>by simp only[Ai.wL,hw x y h.1,all2.wL hw h.2]
 | [],_::_,h=>h.elim
 | _::_,[],h=>h.elim
theorem all2.memr{α:Type}{R:α->α->Prop}{l m:List α}(h:all2 R l m){y:α}(hy:y∈m):∃ x∈l,R x y:=by obtain⟨i,hi⟩:=Cd hy;obtain⟨x,hx,hr⟩:=h.get' hi;exact⟨x,Aq hx,hr⟩
theorem JSa{c c':Cls}(h:Jci cs U c=.ok c'):HdC c c'/\(Zk c->Zk c')/\V1 c'=V1 c:=by
 unfold Jci at h;obtain⟨fs,hf,h⟩:=Jd h;obtain⟨is,hi,h⟩:=Jd h;split at h
 ·cases h
 split at h
 ·cases h
 obtain⟨ks,hk,h⟩:=Jd h;obtain⟨ms,hm,h⟩:=Jd h;cases h;have hf:=ZX hf;have hk:=ZX hk;have hm:=ZX hm;have f1:all2 (λx y:Fld=>HdF x y/\(Juj x->Juj y)/\JfS y=JfS x) c.fields fs:=hf.imp λx y hxy=>by obtain⟨t,ht,hxy⟩:=Jd hxy;cases hxy;obtain⟨k1,k2⟩:=JaV cs U _ _ _ ht;exact⟨⟨rfl,Jv9 ht,rfl,rfl⟩,λhw=>⟨hw.1,k1 hw.2⟩,by simp only[JfS,k2]⟩
 have f2:all2 (λx y:Ctr=>HdK x y/\(Jnx x->Jnx y)/\JcM y=JcM x) c.ctors ks:=hk.imp λx y hxy=>JR9 hxy;have f3:all2 (λx y:Mth=>HdM x y/\(JgN x->JgN y)/\JbN y=JbN x) c.meths ms:=hm.imp λx y hxy=>JR8 hxy;refine⟨⟨rfl,rfl,rfl,rfl,rfl,f1.imp λ_ _ h=>h.1,f2.imp λ_ _ h=>h.1,f3.imp λ_ _ h=>h.1,Jp8 _ _ _ hi⟩,λhw=>?_,?_⟩
 ·obtain⟨w1,w2,w3,w4,-,w6,w7⟩:=hw;refine⟨w1,w2,w3,λy hy=>?_,trivial,λy hy=>?_,λy hy=>?_⟩
  ·obtain⟨x,hx,-,hr,-⟩:=f1.memr hy;exact hr (w4 x hx)
  ·obtain⟨x,hx,-,hr,-⟩:=f2.memr hy;exact hr (w6 x hx)
  ·obtain⟨x,hx,-,hr,-⟩:=f3.memr hy;exact hr (w7 x hx)
 ·have e1:=f1.wL (w:=JfS) λx y h=>h.2.2;have e2:=f2.wL (w:=JcM) λx y h=>h.2.2;have e3:=f3.wL (w:=JbN) λx y h=>h.2.2;simp only[V1,e1,e2,e3]
theorem Jwe{p q:Prg}(h:JcX cs U p=.ok q):all2 HdC p.classes q.classes/\(JqZ p->JqZ q)/\wL V1 q.classes=wL V1 p.classes:=by unfold JcX at h;obtain⟨l,hl,h⟩:=Jd h;obtain⟨m,hm,h⟩:=Jd h;cases h;have f1:all2 (λx y:Cls=>HdC x y/\(Zk x->Zk y)/\V1 y=V1 x) p.classes l:=(ZX hl).imp λx y hxy=>JSa hxy;refine⟨f1.imp λ_ _ h=>h.1,λhw c hc=>?_,f1.wL λx y h=>h.2.2⟩;obtain⟨x,hx,-,hr,-⟩:=f1.memr hc;exact hr (hw x hx)

end
def JSe(m:Mth):AV:=.agg (Jm m)
def JEx:List AV:=[.str [],.list 0 .full [],.int .i64 0,.str [],.bool false,.list 0 .full [],.list 0 .full [],.int .i64 0,.list 0 .full [],.bool false,.int .i64 0]
theorem Jwf(L:LibY pr F){cs:List Cls}{U:List (List Nat)}(C:Cst cs U){H:List Blk}{rw:List Nat}{nt:Nat}{r:Room}{m:Mth}(T:TbU H nt cs U)(hr:RmOk r)(hM:MtOk m)(hv:r.vars.length<=1000)(_hrr:r.ret=[]) :
  ∃ rw',Rx rw rw'/\Det pr F 120 [.agg (JC nt r),.agg (Jm m)] ⟨H,rw⟩ (KR JSe (Jbp cs U r m)) ⟨H,rw'⟩:=by
 have hm:=L.hm;suffices h:Wp pr F 120 [.agg (JC nt r),.agg (Jm m)] ⟨H,rw⟩ λr' S'=>∃ rw',Rx rw rw'/\r'=KR JSe (Jbp cs U r m)/\S'=⟨H,rw'⟩ by obtain⟨r',S',hd,rw',h1,rfl,rfl⟩:=h.det hm;exact⟨rw',h1,hd⟩
 have hR:Rx rw rw:=Rx.rfl;obtain⟨hMp,hMr,hMb,hMw,hMv,hMa⟩:=hM;obtain⟨mn,mp,⟨k1,n1,u1,e1,p1,a1⟩,mb,mab,mat⟩:=m;simp only at hMp hMr hMb hMw hMv hMa;have hres:Jbp cs U r ⟨mn,mp,.mk k1 n1 u1 e1 p1 a1,mb,mab,mat⟩=(XE cs U r mp).bind λx=>(tyF cs U x.1 (.mk k1 n1 u1 e1 p1 a1)).bind λt=>
  if mab then .ok ⟨mn,x.2,t,mb,mab,mat⟩else(blF cs U {x.1 with ret:=[t]} mb).bind λb=>if V6 t≠0/\XM b=false then Kz 134 mat else .ok ⟨mn,x.2,t,b,mab,mat⟩:=rfl
 generalize Jbp cs U r ⟨mn,mp,.mk k1 n1 u1 e1 p1 a1,mb,mab,mat⟩=res at *;refine Jt hm L.f120.1 L.f120.2 rfl ?_;refine Kt hm ?_;unfold JvC;show At pr F H.length (fin _ H.length _) _ _ _ _;refine Ku hm ?_;intro H1 hH1 hlen hlt;have T1:=λM=>T.keep (JF hH1 (.cells JEx) M);have pan:∀(c:Int×Int) (e:KC) (M:List Blk) (rw':List Nat),res=.error c->Rx rw rw'->fin [.cell 4 (some 11)] H.length (λr' S'=>∃ rw',Rx rw rw'/\r'=KR JSe res/\S'=⟨H,rw'⟩) (.panic (Xs c)) e ⟨hp H1 H.length (.cells JEx) M,rw'⟩:=λc e M rw' hre hr'=>Fw
 refine' JM;refine Kj (q:=H.length) rfl rfl (Kh hlt) ?_;refine' JM;rw[Xd];obtain⟨v1,rw2,hi1,hR2,hd⟩:=Joo L C (l:=mp) (T1 [.cells (JC nt r),.cells (Jm ⟨mn,mp,.mk k1 n1 u1 e1 p1 a1,mb,mab,mat⟩),.cells [.nilp,.str [],.list 0 .full [],.bool false,.list 0 .full [],.bool false]]) hr hMp O hMw (rw:=rw);refine Kk hd rfl rfl rfl ?_ ?_
 ·intro c hc;rw[hc]at hres;exact pan c _ _ _ hres (hR.trans hR2)
 intro x v hvx hc;rw[hc]at hres;change v=.tup [.agg (JC nt x.1),v1]at hvx;subst hvx;replace hi1:=hi1 x hc;clear hd;replace hR:=hR.trans hR2;obtain⟨r2,ps⟩:=x;obtain⟨hr2,hrl2,hrt2,-⟩:=Jbr _ hr (λp hp=>⟨hMp p hp,by have:=Q3 (w:=V0) hp;simp only[V0]at this;omega⟩) hc;have hpl:=Jb0 (w:=V0) (λx=>Ca) mp;simp only at hr2 hrl2 hrt2 hi1;have hcn1:=hi1.canon;obtain⟨s1,t1,rfl,-,-⟩:=hi1.ex;replace hres:res=(tyF cs U r2 (.mk k1 n1 u1 e1 p1 a1)).bind λt=>
  if mab then .ok ⟨mn,ps,t,mb,mab,mat⟩else(blF cs U {r2 with ret:=[t]} mb).bind λb=>if V6 t≠0/\XM b=false then Kz 134 mat else .ok ⟨mn,ps,t,b,mab,mat⟩:=hres
 refine JQ ?_;refine' JM;rw[Xd];refine YL ?_;refine XP rfl rfl ?_;refine JaE ?_;refine Jai (cs:=[.str mn,.list s1 t1 (ps.map Jf),.int .i64 k1,.str n1,.bool u1,Kp 6 (Jo e1),Kp 5 (Ja p1),.int .i64 a1,Kp 7 (Jg mb),.bool mab,.int .i64 mat]) (vs:=Jl (.mk k1 n1 u1 e1 p1 a1)) ?_ ⟨(K9 (.mk k1 n1 u1 e1 p1 a1)).can,Ba rfl⟩;refine' JM;obtain⟨rw3,hR3,hd⟩:=Jjv L C (t:=.mk k1 n1 u1 e1 p1 a1) (T1 [.cells (JC nt r),.cells [.str mn,.list s1 t1 (ps.map Jf),.int .i64 k1,.str n1,.bool u1,Kp 6 (Jo e1),Kp 5 (Ja p1),.int .i64 a1,Kp 7 (Jg mb),.bool mab,.int .i64 mat],.cells (JC nt r2)]) hr2 O hMr.2 hMr.1 (rw:=rw2);refine Kk hd rfl rfl rfl ?_ ?_
 ·intro c hc;rw[hc]at hres;exact pan c _ _ _ hres (hR.trans hR3)
 intro t' v hvx hct;rw[hct]at hres;change v=.agg (Jl t')at hvx;subst hvx;clear hd;replace hR:=hR.trans hR3;obtain⟨hD,hkd⟩:=Jrg hMr hct;obtain⟨k2,n2,u2,e2,p2,a2⟩:=t';replace hres:res=if mab then .ok ⟨mn,ps,.mk k2 n2 u2 e2 p2 a2,mb,mab,mat⟩else(blF cs U {r2 with ret:=[.mk k2 n2 u2 e2 p2 a2]} mb).bind λb=>if V6 (.mk k2 n2 u2 e2 p2 a2)≠0/\XM b=false then Kz 134 mat else .ok ⟨mn,ps,.mk k2 n2 u2 e2 p2 a2,b,mab,mat⟩:=hres
 have hcc:∀(bl:AV) (m:List Sm),canon1 bl=Kp 7 (Jg m)->Jh [.str mn,.list s1 t1 (ps.map Jf),.int .i64 k2,.str n2,.bool u2,Kp 6 (Jo e2),Kp 5 (Ja p2),.int .i64 a2,bl,.bool mab,.int .i64 mat]=Jm ⟨mn,ps,.mk k2 n2 u2 e2 p2 a2,m,mab,mat⟩:=λbl m hb=>by simp only[Jh,Ap,AC,hcn1,hb,Jq,Jm,Jl,Aw,Au];rfl
 refine JQ ?_;refine' JM
 ·rw[hres,if_pos hq];have h1:=hcc (Kp 7 (Jg mb)) mb (Jq ..);simp only[Jl,Aw,Au];rw[h1];exact Ju hH1 rfl (Qa _) ⟨_,hR,rfl,rfl⟩
 ·have hmab:=hq;clear hq;rw[hmab]at hres;rw[if_neg Aj]at hres;refine YL ?_;refine XP rfl rfl ?_;refine JaE ?_;refine Jai (cs:=[.str mn,.list s1 t1 (ps.map Jf),.int .i64 k2,.str n2,.bool u2,Kp 6 (Jo e2),Kp 5 (Ja p2),.int .i64 a2,Kp 7 (Jg mb),.bool mab,.int .i64 mat]) (vs:=Jl (.mk k2 n2 u2 e2 p2 a2)) ?_ ⟨(K9 (.mk k2 n2 u2 e2 p2 a2)).can,Ba rfl⟩;refine' JM;have hr3:RmOk {r2 with ret:=[.mk k2 n2 u2 e2 p2 a2]}:=⟨hr2.this,hr2.vars,λt ht=>by rw[AN.1 ht];exact hD⟩
  obtain⟨v2,rw4,hi2,hR4,hd⟩:=JDh L C mb hMb _ rw3 (H1.length+2) nt {r2 with ret:=[.mk k2 n2 u2 e2 p2 a2]} (.list 6 .full [Jl (.mk k2 n2 u2 e2 p2 a2)]) rfl (T1 [.cells (JC nt r),.cells [.str mn,.list s1 t1 (ps.map Jf),.int .i64 k2,.str n2,.bool u2,Kp 6 (Jo e2),Kp 5 (Ja p2),.int .i64 a2,Kp 7 (Jg mb),.bool mab,.int .i64 mat],.cells (Jjz nt r2 (.list 6 .full [Jl (.mk k2 n2 u2 e2 p2 a2)]))]) (Vq hlt 2) hr3 (by simp only[hrl2];omega) O (Ao 1);refine Kk hd rfl rfl rfl ?_ ?_
  ·intro c hc;rw[hc]at hres;exact pan c _ _ _ hres (hR.trans hR4)
  intro b v hvx hcb;subst hvx;rw[hcb]at hres;replace hi2:=hi2 b hcb;clear hd;replace hR:=hR.trans hR4;have hcn2:=hi2.canon;obtain⟨s2,t2,rfl,hs2,-⟩:=hi2.ex;have hze:=Jh8 cs U mb _ b hcb;have hzl:=JrN mb;have hen:=Jv3 L (l:=b) (s7:=s2) (tg:=t2) (λh=>hs2 (λhh=>h (by rw[Qh]at hh;exact List.map_eq_nil_iff.1 hh))) O;replace hres:res=if V6 (.mk k2 n2 u2 e2 p2 a2)≠0/\XM b=false then Kz 134 mat else .ok ⟨mn,ps,.mk k2 n2 u2 e2 p2 a2,b,false,mat⟩:=hres
  refine JQ ?_;refine' JM
  ·rename_i hk1;have hE:XM b=false:=by simpa using hq
   have hK:V6 (.mk k2 n2 u2 e2 p2 a2)≠0:=by first |exact hk1 |simpa [V6] using hk1
   rw[if_pos ⟨hK,hE⟩]at hres;refine KV (Kr L.toLibW _ _ _ _) rfl rfl rfl ?_;exact pan _ _ _ _ hres hR
  all_goals
   have h1:=hcc _ _ hcn2;rw[hmab]at h1
  ·have hE:¬ (XM b=false):=by simpa using hq
   rw[hres,if_neg (λh=>hE h.2)];rw[hmab,h1];exact Ju hH1 rfl (Qa _) ⟨_,hR,rfl,rfl⟩
  ·rw[hres,if_neg (by rintro⟨h,-⟩;exact h hq)];rw[hmab,h1];exact Ju hH1 rfl (Qa _) ⟨_,hR,rfl,rfl⟩
end Go.Proofs.YtmeakjgbjldkdaaGreat.Ai
