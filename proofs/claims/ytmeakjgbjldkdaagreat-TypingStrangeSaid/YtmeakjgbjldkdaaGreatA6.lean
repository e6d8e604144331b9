/- A part of what is proved: Ty3, W0, Shelf2, SrtC, SrtW, OnceW, SloW, SrtT, RunP, Fro, Pri, JoinS, CloneS, SrtK, SrtL, ExU, OnceD, OnceS, SrtM, M3, B0w, M4, TrQ, L16, L17, L18, W1, W2, W3, W4, W5, L19, W6. No condition. -/
import Derived.Test.YtmeakjgbjldkdaaGreatA5
import Derived.Shelf.SlSortCmp.NoneTotal
import Derived.Ground.SlsfProg
import Derived.Test.YtmeakjgbjldkdaaGreatProg
import Derived.Tactics
import Derived.Tactics2
import Derived.Defers
import Derived.Laws.Pointers
import Derived.Laws.LoneSync
import Derived.Laws.NewBlocks
import Derived.RegionTactic
import Derived.RegionCalls
import Derived.ChangeAlike
import Derived.KernelRfl
set_option maxRecDepth 100000
set_option maxHeartbeats 16000000
noncomputable section
namespace Go.Proofs.YtmeakjgbjldkdaaGreat
abbrev Dh:=@Except.ok.injEq
abbrev Cq:=@List.length_eq_one_iff
abbrev DM:=@List.headD_cons
abbrev BZ:=@List.size_toArray
abbrev Dq:=@List.map_congr_left
abbrev DN:=@List.cons.injEq
abbrev BJ:=@List.getElem?_eq_none_iff
abbrev CZ:=@Bool.false_and
abbrev CD:=@List.take_succ_eq_append_getElem
abbrev BO:=@Bool.false_ne_true
end Go.Proofs.YtmeakjgbjldkdaaGreat
namespace Go.Proofs.YtmeakjgbjldkdaaGreat.Ai
open Go
open Tr(pk)
def JgX(cs:List Cls)(x:Jk×Jk×Mth):Prop:=∃ c∈cs,x.2.2∈c.meths
theorem JkI{cs:List Cls}{c:Cls}(hc:c∈cs)(owner:Jk):∀(l:List Mth) (out:List (Jk×Jk×Mth)),(∀ m∈l,m∈c.meths)->(∀ x∈out,JgX cs x)->∀ x∈l.foldl (JbW owner) out,JgX cs x
 | [],_,_,h=>h
 | m::l,out,hl,h=>JkI hc owner l _ (λm hm=>hl m (A7 _ hm)) λx hx=>by
  unfold JbW at hx;split at hx
  ·exact h x hx
  ·rcases AM.1 hx with hx |hx
   ·exact h x hx
   ·rw[AN.1 hx];exact⟨c,hc,hl m Ag⟩
theorem JkJ{cs:List Cls}:∀(l:List Nat) (out:List (Jk×Jk×Mth)),(∀ x∈out,JgX cs x)->∀ x∈l.foldl (JdD cs) out,JgX cs x
 | [],_,h=>h
 | i::l,out,h=>JkJ l _ λx hx=>by
  unfold JdD at hx;split at hx
  ·rename_i c hc;exact JkI (Aq hc) _ _ _ (λm hm=>hm) h x hx
  ·exact h x hx
theorem JkK{cs:List Cls}{k:Jk}:∀{l:List (Jk×Jk×Mth)},k∈Yw l->(∀ x∈l,JgX cs x)->JgX cs (Jbo k l)
 | x::l,hk,h=>by
  unfold Jbo;by_cases hx:x.1=k
  ·rw[if_pos hx];exact h x Ag
  ·rw[if_neg hx];refine JkK ?_ λy hy=>h y Ei;simp only[Yw,Ap,AS]at hk;exact hk.resolve_left (λe=>hx e.symm)
theorem Jee{cs:List Cls}{U:List (List Nat)}{s:Jk}{x:Jk×Jk×Mth}(h:x∈V5 cs U s):JgX cs x:=by unfold V5 JgV at h;obtain⟨k,hk,rfl⟩:=Bw.1 h;exact JkK ((Yj _).mem_iff.1 hk) (JkJ _ _ λx hx=>El)
theorem Jb0{α:Type}{w:α->Nat}(h1:∀ x,1<=w x):∀ l:List α,l.length<=wL w l
 | []=>Ag
 | y::l=>by have:=Jb0 h1 l;have:=h1 y;simp only[wL,Ad];omega
structure MOk(m:Mth):Prop where
 par:∀ p∈m.params,Zm p.type
 res:DTy m.result
 len:m.params.length<=64800000
theorem Jl3{cs:List Cls}(h:ClsOk cs){x:Jk×Jk×Mth}(hx:JgX cs x):MOk x.2.2:=by
 obtain⟨c,hc,hm⟩:=hx;have hw:=h.okc c hc;have hv:=h.wt;have h1:=Q3 (w:=V1) hc;have h2:=Q3 (w:=JbN) hm;obtain⟨-,h4,h5,-⟩:=hw.2.2.2.2.2.2 _ hm;have h6:wL V0 x.2.2.params<=64800000/\Xg x.2.2.result<=64800000:=by simp only[V1]at h1;simp only[JbN]at h2;constructor <;> omega
 refine⟨λp hp=>⟨.inl (h4 p hp).2,?_⟩,⟨h5,h6.2⟩,?_⟩
 ·have:=Q3 (w:=V0) hp;simp only[V0]at this;omega
 ·exact BX (Jb0 (w:=V0) (λx=>Ca) _) h6.1
theorem Jrd{nm:Jk}{f:Fld}:∀{fs:List Fld},JdB nm fs=some f->f∈fs
 | g::fs,h=>by
  unfold JdB at h;split at h
  ·simp only[V]at h;simp[h]
  ·simp[Jrd h]
theorem Jl4{cs:List Cls}(h:ClsOk cs){nm:Jk}:∀{l:List Nat} {o:Jk} {f:Fld},Zi cs nm l=some (o,f)->Zm f.type
 | i::l,o,f,hf=>by
  unfold Zi at hf;cases hi:Jhg cs nm i with
  | none=>rw[hi]at hf;exact Jl4 h hf
  | some r=>
   rw[hi]at hf;simp only[V]at hf;subst hf;unfold Jhg at hi;split at hi
   ·rename_i c hc;have hcm:=Aq hc;have hfm:f∈c.fields:=by obtain⟨g,hg,he⟩:=BN.1 hi;simp only[AP]at he;rw[<- he.2];exact Jrd hg
    have h1:=Q3 (w:=V1) hcm;have h2:=Q3 (w:=JfS) hfm;have h4:=h.wt;refine⟨.inl ((h.okc c hcm).2.2.2.1 f hfm).2,?_⟩;simp only[V1]at h1;simp only[JfS]at h2;omega
   ·cases hi
theorem JkL{cs:List Cls}(h:ClsOk cs){on:Xp}{n:Jk}{a:Int}{f:Fld}(hf:XU cs on n a=.ok f):Zm f.type:=by
 unfold XU at hf;split at hf
 ·cases hf
 ·split at hf
  ·rename_i o g hg;simp only[Dh]at hf;subst hf;exact Jl4 h hg
  ·cases hf
section
variable (cs:List Cls) (U:List (List Nat))
def Jef(r:Room)(op n:Jk)(l:List Xp)(a:Int):Er Xp:=match (J6 cs n).bind λi=>cs[i]? with
 | none=>Kz 121 a
 | some c=>if c.iface then Kz 139 a else
  (QH cs U r none l).bind λl'=>if KS cs U l' (VW cs n)then .ok (.mk op n l' [Yr n] a)else Kz 132 a
def JgY(r:Room)(op n:Jk)(l:List Xp)(ty:List Ty)(a:Int):Er Xp:=
 (Jab (KX cs (ty.headD (KL 0)))).bind λ_=>(YV cs U ty).bind λty'=>(QH cs U r none l).bind λl'=>match l' with
    | x::y::_=>if V6 (Q4 x)=1/\Vd cs U (Q4 y) (ty'.headD (KL 0))=true then .ok (.mk op n l' ty' a)else Kz 131 a
    | _=>.ok (.mk op n l' ty' a)
end
section
variable (cs:List Cls) (U:List (List Nat))
def Jf4(p:Bool)(op:Jk):Bool:=(p && JcW.contains op) ||(!p && op == [61,62])
def JnZ(r:Room)(op n:Jk)(l:List Xp)(ty:List Ty)(a:Int)(k:Er Xp):Er Xp:=
  if op=[110,117,109]\/op=[114,101,97,100] then .ok (.mk op n l [KL 1] a)
  else if op=[116,114,117,101]\/op=[102,97,108,115,101] then .ok (.mk op n l [KL 2] a)
  else if op=[110,117,108,108] then .ok (.mk op n l [KL 5] a)
  else if op=[116,104,105,115] then if r.this=[] then Kz 135 a else .ok (.mk op n l [Yr r.this] a)
  else if op=[118,97,114] then match ZS n r.vars with
   | some v=>.ok (.mk op n l [VD v.typ] a)
   | none=>Kz 130 a
  else if op=[110,101,119] then Jef cs U r op n l a
  else if op=[108,105,115,116] then JgY cs U r op n l ty a
  else k
theorem JpK(r:Room)(op n:Jk)(l:List Xp)(ty:List Ty)(a:Int):exF cs U r (.mk op n l ty a)=if Jf4 r.pred op then Kz 138 a else JnZ cs U r op n l ty a ((QH cs U r (if op=[99,97,108,108] then some a else none) l).bind λl'=>YU cs U r op n l' ty a):=by rw[exF];rfl
end
theorem Jd{α β:Type}{x:Er α}{f:α->Er β}{y:β}(h:x.bind f=.ok y):∃ z,x=.ok z/\f z=.ok y:=by
 cases x with
 | error c=>cases h
 | ok z=>exact⟨z,rfl,h⟩
theorem Jre{op n:Jk}{l l':List Xp}{ty ty':List Ty}(hl:l'.length=l.length)(ho:op≠[108,105,115,116])(h:JbM op n l ty):JbM op n l' ty':=by
 have h0:l=[]->l'=[]:=λh=>by rw[h]at hl;exact Bz.1 hl
 have h1:(∃ a,l=[a])->∃ a,l'=[a]:=λ⟨a,h⟩=>by rw[h]at hl;exact Cq.1 hl
 have h2:(∃ a b,l=[a,b])->∃ a b,l'=[a,b]:=λ⟨a,b,h⟩=>by
  rw[h]at hl;match l',hl with
  | [x,y],_=>exact⟨x,y,rfl⟩
 have h3:(∃ a m,l=a::m)->∃ a m,l'=a::m:=λ⟨a,m,h⟩=>by
  rw[h]at hl;match l',hl with
  | x::y,_=>exact⟨x,y,rfl⟩
 unfold JbM at h |-;rcases h with⟨q1,q2,q3⟩ |⟨q1,q2,q3⟩ |⟨q1,q2,q3⟩ |⟨q1,q2,q3⟩ |⟨q1,q3⟩ |⟨q1,-⟩ |⟨q1,q2,q3⟩ |⟨q1,q2,q3⟩ |⟨q1,q2,q3⟩ |⟨q1,q2,q3⟩ |⟨q1,q2,q3⟩
 ·exact .inl ⟨q1,h0 q2,q3⟩
 ·exact .inr (.inl ⟨q1,h0 q2,q3⟩)
 ·exact .inr (.inr (.inl ⟨q1,h0 q2,q3⟩))
 ·exact .inr (.inr (.inr (.inl ⟨q1,h1 q2,q3⟩)))
 ·exact .inr (.inr (.inr (.inr (.inl ⟨q1,q3⟩))))
 ·exact absurd q1 ho
 ·exact .inr (.inr (.inr (.inr (.inr (.inr (.inl ⟨q1,h1 q2,q3⟩))))))
 ·exact .inr (.inr (.inr (.inr (.inr (.inr (.inr (.inl ⟨q1,h3 q2,q3⟩)))))))
 ·exact .inr (.inr (.inr (.inr (.inr (.inr (.inr (.inr (.inl ⟨q1,h2 q2,q3⟩))))))))
 ·exact .inr (.inr (.inr (.inr (.inr (.inr (.inr (.inr (.inr (.inl ⟨q1,h1 q2,q3⟩)))))))))
 ·exact .inr (.inr (.inr (.inr (.inr (.inr (.inr (.inr (.inr (.inr ⟨q1,h2 q2,q3⟩)))))))))
theorem Jn0{cs:List Cls}{U:List (List Nat)}{op n:Jk}{l:List Xp}{ty:List Ty}{a:Int}{x':Xp}(h:Jaa cs U op n l ty a=.ok x'):∃ ty',x'=.mk op n l ty' a:=by
 unfold Jaa at h;split at h
 ·split at h
  ·split at h
   ·cases h;exact⟨_,rfl⟩
   ·cases h
  ·cases h;exact⟨_,rfl⟩
 ·simp only at h;generalize (l.all λx=>V6 (Q4 x) == _)=bb at h;cases bb with
  | true=>cases h;exact⟨_,rfl⟩
  | false=>cases h
theorem JgZ{cs:List Cls}{U:List (List Nat)}{op n:Jk}{l:List Xp}{a:Int}{x':Xp}(h:JdQ cs U op n l a=.ok x'):∃ m,m∈V5 cs U (nmT (Q4 (l.headD (.mk [] [] [] [] 0))))/\m.2.2.name=n/\KS cs U l.tail m.2.2.params=true/\x'=.mk op m.1 l [VD m.2.2.result] a:=by
 unfold JdQ at h;simp only at h;split at h
 ·cases h
 ·split at h
  ·rename_i m hm;cases h;have h1:=DY hm;obtain⟨h2,h3⟩:=Ct.1 h1;obtain⟨h4,h5⟩:=Ct.1 h2;exact⟨m,h4,by simpa using h5,h3,rfl⟩
  ·cases h
theorem Jb1{cs:List Cls}{U:List (List Nat)}{r:Room}{op n:Jk}{l:List Xp}{ty:List Ty}{a:Int}{x':Xp}(hc:op≠[99,97,108,108])(h:YU cs U r op n l ty a=.ok x'):∃ ty',x'=.mk op n l ty' a:=by
 unfold YU at h;split at h
 ·obtain⟨f,-,h⟩:=Jd h;split at h
  ·cases h
  ·cases h;exact⟨_,rfl⟩
 ·split at h
  ·split at h
   ·split at h
    ·cases h;exact⟨_,rfl⟩
    ·cases h
   ·cases h;exact⟨_,rfl⟩
  ·split at h
   ·split at h
    ·cases h;exact⟨_,rfl⟩
    ·cases h
   ·exact Jn0 h
theorem Jjd{cs:List Cls}{U:List (List Nat)}{x y:Xp}{t:Ty}{a:Int}(h:JcV cs U x t a=.ok y):y=x/\Vd cs U (Q4 x) t=true:=by
 unfold JcV at h;split at h
 ·cases h;exact⟨rfl,Aa⟩
 ·cases h
theorem Jdq{cs:List Cls}{U:List (List Nat)}{r:Room}{op n:Jk}{l:List Xp}{ty:List Ty}{a:Int}{x':Xp}(h:exF cs U r (.mk op n l ty a)=.ok x') :
  (r.pred=true->JcW.contains op=false) /\
  (((op=[110,117,109]\/op=[114,101,97,100])/\x'=.mk op n l [KL 1] a)\/((op=[116,114,117,101]\/op=[102,97,108,115,101])/\x'=.mk op n l [KL 2] a)\/(op=[110,117,108,108]/\x'=.mk op n l [KL 5] a) \/
    (op=[116,104,105,115]/\r.this≠[]/\x'=.mk op n l [Yr r.this] a)\/(op=[118,97,114]/\∃ v,ZS n r.vars=some v/\x'=.mk op n l [VD v.typ] a) \/
    (op=[110,101,119]/\∃(c:Cls) (l':List Xp),(J6 cs n).bind (λi=>cs[i]?)=some c/\c.iface=false/\QH cs U r none l=.ok l'/\KS cs U l' (VW cs n)=true/\x'=.mk op n l' [Yr n] a) \/
    (op=[108,105,115,116]/\∃(ty':List Ty) (l':List Xp),YV cs U ty=.ok ty'/\QH cs U r none l=.ok l'/\x'=.mk op n l' ty' a) \/
    (op≠[110,117,109]/\op≠[114,101,97,100]/\op≠[116,114,117,101]/\op≠[102,97,108,115,101]/\op≠[110,117,108,108]/\op≠[116,104,105,115]/\op≠[118,97,114]/\op≠[110,101,119]/\op≠[108,105,115,116]/\∃ l',QH cs U r (if op=[99,97,108,108] then some a else none) l=.ok l'/\YU cs U r op n l' ty a=.ok x')):=by
 rw[JpK]at h;by_cases hb:Jf4 r.pred op=true
 ·rw[if_pos hb]at h;cases h
 rw[if_neg hb]at h;refine⟨λhp=>?_,?_⟩
 ·unfold Jf4 at hb;rw[hp]at hb;cases hn:JcW.contains op with
  | false=>rfl
  | true=>rw[hn]at hb;exact absurd rfl hb
 unfold JnZ at h;by_cases c1:op=[110,117,109]\/op=[114,101,97,100]
 ·rw[if_pos c1]at h;cases h;exact .inl ⟨c1,rfl⟩
 rw[if_neg c1]at h;by_cases c2:op=[116,114,117,101]\/op=[102,97,108,115,101]
 ·rw[if_pos c2]at h;cases h;exact .inr (.inl ⟨c2,rfl⟩)
 rw[if_neg c2]at h;by_cases c3:op=[110,117,108,108]
 ·rw[if_pos c3]at h;cases h;exact .inr (.inr (.inl ⟨c3,rfl⟩))
 rw[if_neg c3]at h;by_cases c4:op=[116,104,105,115]
 ·rw[if_pos c4]at h;split at h
  ·cases h
  ·cases h;exact .inr (.inr (.inr (.inl ⟨c4,Aa,rfl⟩)))
 rw[if_neg c4]at h;by_cases c5:op=[118,97,114]
 ·rw[if_pos c5]at h;split at h
  ·rename_i v hv;cases h;exact .inr (.inr (.inr (.inr (.inl ⟨c5,v,hv,rfl⟩))))
  ·cases h
 rw[if_neg c5]at h;by_cases c6:op=[110,101,119]
 ·rw[if_pos c6]at h;unfold Jef at h;split at h
  ·cases h
  ·rename_i c hc;split at h
   ·cases h
   ·rename_i hi;obtain⟨l',hl,h⟩:=Jd h;split at h
    ·cases h;exact .inr (.inr (.inr (.inr (.inr (.inl ⟨c6,c,l',hc,by simpa using hi,hl,Aa,rfl⟩)))))
    ·cases h
 rw[if_neg c6]at h;by_cases c7:op=[108,105,115,116]
 ·rw[if_pos c7]at h;unfold JgY at h;obtain⟨-,-,h⟩:=Jd h;obtain⟨ty',ht,h⟩:=Jd h;obtain⟨l',hl,h⟩:=Jd h;refine .inr (.inr (.inr (.inr (.inr (.inr (.inl ⟨c7,ty',l',ht,hl,?_⟩))))));split at h
  ·split at h
   ·cases h;rfl
   ·cases h
  ·cases h;rfl
 rw[if_neg c7]at h;obtain⟨l',hl,h⟩:=Jd h;exact .inr (.inr (.inr (.inr (.inr (.inr (.inr ⟨λq=>c1 (.inl q),λq=>c1 (.inr q),λq=>c2 (.inl q),λq=>c2 (.inr q),c3,c4,c5,c6,c7,l',hl,h⟩))))))
theorem Jl5{op n:Jk}{l:List Xp}{ty:List Ty}{a:Int}(h:op≠[108,105,115,116]):VY (.mk op n l ty a)=1+op.length+n.length+KE l:=by simp only[VY,if_neg h,AE]
section
variable (cs:List Cls) (U:List (List Nat))
mutual
theorem Fe{Q:Prop}(h:Q:=by rw[e]at hn;exact absurd hn Aj):Q:=h
theorem Ju4:∀(x:Xp) (r:Room) (x':Xp),r.pred=true->exF cs U r x=.ok x'->(Q7 x->Q7 x')/\VY x'=VY x
 | .mk op n l ty a,r,x',hp,h=>by
  obtain⟨hn,h⟩:=Jdq h;have hn:=hn hp;have n1:op≠[108,105,115,116]:=λe=>Fe
  have n2:op≠[110,101,119]:=λe=>Fe
  have n3:op≠[99,97,108,108]:=λe=>Fe
  have leaf:∀ t,(Q7 (.mk op n l ty a)->Q7 (.mk op n l [t] a))/\VY (.mk op n l [t] a)=VY (.mk op n l ty a):=λt=>⟨λhw=>by simp only[Q7]at hw |-;exact⟨Jre rfl n1 hw.1,hw.2.1,λe=>absurd e n1⟩,by rw[Jl5 n1,Jl5 n1]⟩
  rcases h with⟨-,rfl⟩ |⟨-,rfl⟩ |⟨-,rfl⟩ |⟨-,-,rfl⟩ |⟨-,v,-,rfl⟩ |⟨e,-⟩ |⟨e,-⟩ |⟨-,-,-,-,-,-,-,-,-,l',hl,h⟩
  ·exact leaf _
  ·exact leaf _
  ·exact leaf _
  ·exact leaf _
  ·exact leaf _
  ·exact absurd e n2
  ·exact absurd e n1
  ·rw[if_neg n3]at hl;obtain⟨ty',rfl⟩:=Jb1 n3 h;obtain⟨h1,h2,h3⟩:=Jrf l r l' hp hl;refine⟨λhw=>?_,by rw[Jl5 n1,Jl5 n1,h2]⟩;simp only[Q7]at hw |-;exact⟨Jre h3 n1 hw.1,h1 hw.2.1,λe=>absurd e n1⟩
theorem Jrf:∀(l:List Xp) (r:Room) (l':List Xp),r.pred=true->QH cs U r none l=.ok l'->(KP l->KP l')/\KE l'=KE l/\l'.length=l.length
 | [],r,l',_,h=>by rw[QH]at h;cases h;exact⟨λh=>h,rfl,rfl⟩
 | x::l,r,l',hp,h=>by rw[QH]at h;obtain⟨y,hy,h⟩:=Jd h;obtain⟨m,hm,h⟩:=Jd h;cases h;obtain⟨h1,h2⟩:=Ju4 x r y hp hy;obtain⟨h3,h4,h5⟩:=Jrf l r m hp hm;refine⟨λhw=>?_,by simp only[KE,h2,h4],by simp only[Ad,h5]⟩;simp only[KP]at hw |-;exact⟨h1 hw.1,h3 hw.2⟩
end
theorem Jn1:∀(l:List Xp) (r:Room) (l':List Xp),Jec cs U r l=.ok l'->(KP l->KP l')/\KE l'=KE l/\l'.length=l.length
 | [],r,l',h=>by rw[Jec]at h;cases h;exact⟨λh=>h,rfl,rfl⟩
 | x::l,r,l',h=>by rw[Jec]at h;obtain⟨y,hy,h⟩:=Jd h;obtain⟨y',hy',h⟩:=Jd h;obtain⟨m,hm,h⟩:=Jd h;cases h;obtain⟨rfl,-⟩:=Jjd hy';obtain⟨h1,h2⟩:=Ju4 cs U x _ y' rfl hy;obtain⟨h3,h4,h5⟩:=Jn1 l r m hm;refine⟨λhw=>?_,by simp only[KE,h2,h4],by simp only[Ad,h5]⟩;simp only[KP]at hw |-;exact⟨h1 hw.1,h3 hw.2⟩
mutual
theorem JaV:∀(t:Ty) (r:Room) (t':Ty),tyF cs U r t=.ok t'->(Vg t->Vg t')/\Xg t'=Xg t
 | .mk k n u e p a,r,t',h=>by
  rw[tyF]at h;obtain⟨e',he,h⟩:=Jd h;obtain⟨p',hp,h⟩:=Jd h;cases h;obtain⟨h1,h2,h3⟩:=Jfi e e' he;obtain⟨h4,h5,h6⟩:=Jn1 cs U p _ p' hp;refine⟨λhw=>?_,by simp only[Xg,h2,h5]⟩;simp only[Vg]at hw |-;obtain⟨hk,hl,hwe,hwp⟩:=hw;refine⟨?_,O,h1 hwe,h4 hwp⟩;have h0:e=[]->e'=[]:=λh=>by rw[h]at h3;exact Bz.1 h3
  rcases hk with⟨q1,q2,q3⟩ |⟨q1,q2,q3⟩ |⟨q1,q2,q3⟩ |⟨q1,q2,q,rfl⟩
  ·exact .inl ⟨q1,h0 q2,q3⟩
  ·exact .inr (.inl ⟨q1,h0 q2,q3⟩)
  ·exact .inr (.inr (.inl ⟨q1,h0 q2,q3⟩))
  ·exact .inr (.inr (.inr ⟨q1,q2,Cq.1 h3⟩))
theorem Jfi:∀(l:List Ty) (l':List Ty),YV cs U l=.ok l'->(XX l->XX l')/\XI l'=XI l/\l'.length=l.length
 | [],l',h=>by rw[YV]at h;cases h;exact⟨λh=>h,rfl,rfl⟩
 | t::l,l',h=>by rw[YV]at h;obtain⟨y,hy,h⟩:=Jd h;obtain⟨m,hm,h⟩:=Jd h;cases h;obtain⟨h1,h2⟩:=JaV t _ y hy;obtain⟨h3,h4,h5⟩:=Jfi l m hm;refine⟨λhw=>?_,by simp only[XI,h2,h4],by simp only[Ad,h5]⟩;simp only[XX]at hw |-;exact⟨h1 hw.1,h3 hw.2⟩
end
end
theorem JNT{n:Jk}{l:List Xp}{ty:List Ty}(h:JbM [110,101,119] n l ty):Nm n:=by
 unfold JbM at h;rcases h with⟨q,-⟩ |⟨q,-⟩ |⟨q,-⟩ |⟨q,-⟩ |⟨-,q⟩ |⟨q,-⟩ |⟨q,-⟩ |⟨q,-⟩ |⟨q,-⟩ |⟨q,-⟩ |⟨q,-⟩
 ·exact absurd q Aj
 ·exact absurd q Aj
 ·exact absurd q Aj
 ·exact absurd q Aj
 ·exact q
 ·exact absurd q Aj
 ·exact absurd q Aj
 ·exact absurd q Aj
 ·exact absurd q Aj
 ·exact absurd q Aj
 ·exact absurd q Aj
theorem JBB{n:Jk}{l:List Xp}{ty:List Ty}(h:JbM [108,105,115,116] n l ty):(∃ a b,l=[a,b])/\∃ t,ty=[t]:=by
 unfold JbM at h;rcases h with⟨q,-⟩ |⟨q,-⟩ |⟨q,-⟩ |⟨q,-⟩ |⟨q,-⟩ |⟨-,q,q2,-⟩ |⟨q,-⟩ |⟨q,-⟩ |⟨q,-⟩ |⟨q,-⟩ |⟨q,-⟩
 ·exact absurd q Aj
 ·exact absurd q Aj
 ·exact absurd q Aj
 ·exact absurd q Aj
 ·exact absurd q Aj
 ·exact⟨q,q2⟩
 ·exact absurd q Aj
 ·exact absurd q Aj
 ·exact absurd q Aj
 ·exact absurd q Aj
 ·exact absurd q Aj
theorem Ju5{op n:Jk}{l:List Xp}{ty:List Ty}(ho:op=[105,110,100,101,120]\/op=[61,61]\/op=[33,61])(h:JbM op n l ty):∃ a b,l=[a,b]:=by
 unfold JbM at h;rcases h with⟨q,-⟩ |⟨q,-⟩ |⟨q,-⟩ |⟨q,-⟩ |⟨q,-⟩ |⟨q,-⟩ |⟨q,-⟩ |⟨q,-⟩ |⟨-,q,-⟩ |⟨q,-⟩ |⟨-,q,-⟩
 ·subst q;exact absurd ho Aj
 ·subst q;exact absurd ho Aj
 ·rcases q with q |q |q |q |q <;> subst q <;> exact absurd ho Aj
 ·subst q;exact absurd ho Aj
 ·subst q;exact absurd ho Aj
 ·subst q;exact absurd ho Aj
 ·subst q;exact absurd ho Aj
 ·subst q;exact absurd ho Aj
 ·exact q
 ·rcases q with q |q <;> subst q <;> exact absurd ho Aj
 ·exact q
theorem JNU{t:Ty}(h:Zm t)(hk:V6 t=4):Zm ((elT t).headD (KL 0)):=by
 obtain⟨k,n,u,e,p,a⟩:=t;simp only[V6]at hk;subst hk;obtain⟨h1 |h1 |h1,h2⟩:=h
 ·simp only[Vg]at h1;rcases h1.1 with⟨q,-⟩ |⟨q,-⟩ |⟨q,-⟩ |⟨-,-,t,rfl⟩
  ·exact absurd q Aj
  ·exact absurd q Aj
  ·exact absurd q Aj
  ·have h3:=h1.2.2.1;simp only[XX]at h3;simp only[Xg,XI]at h2;exact⟨.inl h3.1,by simp only[elT,DM];omega⟩
 ·simp[KL]at h1
 ·simp[KL]at h1
section
variable {cs:List Cls} (U:List (List Nat))
mutual
theorem JEk(hc:ClsOk cs):∀(x:Xp) (r:Room) (x':Xp),RmOk r->Q7 x->VY x<=64800000->exF cs U r x=.ok x'->Zm (Q4 x')
 | .mk op n l ty a,r,x',hr,hw,hv,h=>by
  obtain⟨-,h⟩:=Jdq h;simp only[Q7]at hw;have hvl:KE l<=64800000:=by simp only[VY]at hv;omega
  rcases h with⟨o,rfl⟩ |⟨o,rfl⟩ |⟨o,rfl⟩ |⟨o,ht,rfl⟩ |⟨o,v,hf,rfl⟩ |⟨o,c,l',h1,h2,h3,h4,rfl⟩ |⟨o,ty',l',h1,h2,rfl⟩ |⟨-,-,-,-,-,-,-,-,n1,l',hl,h⟩
  ·rw[YO _ _ _ _ _ (by rcases o with o |o <;> subst o <;> decide)];exact Jjb
  ·rw[YO _ _ _ _ _ (by rcases o with o |o <;> subst o <;> decide)];exact Jed
  ·rw[YO _ _ _ _ _ (by subst o;decide)];exact JNR
  ·rw[YO _ _ _ _ _ (by subst o;decide)];have hn:=hr.this.resolve_left ht;exact JEj hn (by have:=hn.len;omega)
  ·rw[YO _ _ _ _ _ (by subst o;decide)];exact Jjc (hr.vars v (JkH hf))
  ·subst o;rw[YO _ _ _ _ _ Aj];have hn:=JNT hw.1;exact JEj hn (by have:=hn.len;omega)
  ·subst o;rw[JBA];obtain⟨-,t,rfl⟩:=JBB hw.1;obtain⟨h5,h6,h7⟩:=Jfi cs U _ _ h1;obtain⟨t',rfl⟩:=Cq.1 h7;have h8:=h5 (hw.2.2 rfl);refine⟨.inl ?_,?_⟩
   ·simp only[Vg];exact⟨.inr (.inr (.inr ⟨trivial,trivial,t',rfl⟩)),Ag,h8,DK⟩
   ·simp only[VY]at hv;simp only[if_true]at hv;rw[<- h6]at hv;simp only[Xg,XI,KE,Af,Ad]at hv |-;omega
  ·obtain⟨hx,hll⟩:=Jje hc l r _ l' hr hw.2.1 hvl hl;unfold YU at h;by_cases c1:op=[102,105,101,108,100]
   ·rw[if_pos c1]at h;obtain⟨f,hf,h⟩:=Jd h;split at h
    ·cases h
    ·cases h;rw[YO _ _ _ _ _ n1];exact Jjc (JkL hc hf)
   rw[if_neg c1]at h;by_cases c2:op=[99,97,108,108]
   ·rw[if_pos c2]at h;obtain⟨m,hm,-,-,rfl⟩:=JgZ h;rw[YO _ _ _ _ _ n1];exact JNS (Jl3 hc (Jee hm)).res
   rw[if_neg c2]at h;by_cases c3:op=[105,110,100,101,120]
   ·rw[if_pos c3]at h;have hw2:=Jre (ty':=ty) hll n1 hw.1;obtain⟨x,y,rfl⟩:=Ju5 (.inl c3) hw2;simp only at h;split at h
    ·rename_i h4;cases h;rw[YO _ _ _ _ _ n1];exact Jjc (JNU (hx x Ag) h4.1)
    ·cases h
   rw[if_neg c3]at h;by_cases c4:op=[108,101,110]
   ·rw[if_pos c4]at h;split at h
    ·cases h;rw[YO _ _ _ _ _ n1];exact Jjb
    ·cases h
   rw[if_neg c4]at h;unfold Jaa at h;split at h
   ·rename_i h4;have hw2:=Jre (ty':=ty) hll n1 hw.1;obtain⟨x,y,rfl⟩:=Ju5 (.inr h4) hw2;simp only at h;split at h
    ·cases h;rw[YO _ _ _ _ _ n1];exact Jed
    ·cases h
   ·simp only at h;generalize (l'.all λx=>V6 (Q4 x) == _)=bb at h;cases bb with
    | true=>
     cases h;rw[YO _ _ _ _ _ n1];split
     ·exact Jjb
     ·exact Jed
    | false=>cases h
theorem Jje(hc:ClsOk cs):∀(l:List Xp) (r:Room) (k:Option Int) (l':List Xp),RmOk r->KP l->KE l<=64800000->QH cs U r k l=.ok l'->(∀ y∈l',Zm (Q4 y))/\l'.length=l.length
 | [],r,k,l',_,_,_,h=>by rw[QH]at h;cases h;exact⟨λy hy=>(by cases hy),rfl⟩
 | x::l,r,k,l',hr,hw,hv,h=>by
  rw[QH]at h;obtain⟨y,hy,h⟩:=Jd h;simp only[KP]at hw;simp only[KE]at hv;have h1:=JEk hc x r y hr hw.1 O hy;have h2:∃ m,QH cs U r none l=.ok m/\l'=y::m:=by
   cases k with
   | none=>obtain⟨m,hm,h⟩:=Jd h;cases h;exact⟨m,hm,rfl⟩
   | some k=>
    simp only at h;split at h
    ·cases h
    ·obtain⟨m,hm,h⟩:=Jd h;cases h;exact⟨m,hm,rfl⟩
  obtain⟨m,hm,rfl⟩:=h2;obtain⟨h3,h4⟩:=Jje hc l r none m hr hw.2 O hm;refine⟨λz hz=>?_,by simp[h4]⟩;rcases AS.1 hz with rfl |hz
  ·exact h1
  ·exact h3 z hz
end
end
structure Cst(cs:List Cls)(U:List (List Nat)):Prop where
 few:Few cs
 ok:ClsOk cs
theorem Cst.of{cs:List Cls}{U:List (List Nat)}(C:Cst cs U){r:Room}{x x':Xp}(hr:RmOk r)(hw:Q7 x)(hv:VY x<=64800000)(h:exF cs U r x=.ok x'):Zm (Q4 x'):=JEk U C.ok x r x' hr hw hv h
theorem Cst.ty{cs:List Cls}{U:List (List Nat)}(_:Cst cs U){r:Room}{t t':Ty}(_:RmOk r)(hw:Vg t)(_:Xg t<=64800000)(h:tyF cs U r t=.ok t'):Vg t'/\Xg t'<=Xg t:=by obtain⟨h1,h2⟩:=JaV cs U t r t' h;exact⟨h1 hw,O⟩
theorem Cst.elm{cs:List Cls}{U:List (List Nat)}(_:Cst cs U){k:Int}{n:Jk}{u:Bool}{e e':List Ty}{p:List Xp}{a:Int}(hw:Vg (.mk k n u e p a))(hv:Xg (.mk k n u e p a)<=64800000)(h:YV cs U e=.ok e'):Zm (.mk k n u e' [] a)/\True:=by
 obtain⟨h1,h2,h3⟩:=Jfi cs U e e' h;have h0:e=[]->e'=[]:=λh=>by rw[h]at h3;exact Bz.1 h3
 simp only[Vg]at hw;simp only[Xg]at hv;refine⟨⟨.inl ?_,by simp only[Xg,KE];omega⟩,trivial⟩;simp only[Vg];refine⟨?_,Ag,h1 hw.2.2.1,DK⟩;rcases hw.1 with⟨q1,q2,q3⟩ |⟨q1,q2,q3⟩ |⟨q1,q2,q3⟩ |⟨q1,q2,q,rfl⟩
 ·exact .inl ⟨q1,h0 q2,q3⟩
 ·exact .inr (.inl ⟨q1,h0 q2,q3⟩)
 ·exact .inr (.inr (.inl ⟨q1,h0 q2,q3⟩))
 ·exact .inr (.inr (.inr ⟨q1,q2,Cq.1 h3⟩))
theorem Jn2{cs:List Cls}{U:List (List Nat)}{r:Room}{kind n:Jk}{ty:List Ty}{exs:List Xp}{b e:List Sm}{a:Int}{x:Sm×Room}(hk:kind≠[108,101,116])(h:XD cs U r (.mk kind n ty exs b e a)=.ok x):x.2=r:=by
 rw[XD,if_neg hk]at h;split at h
 ·split at h
  ·cases h
  ·split at h
   ·cases h
   ·obtain⟨_,-,h⟩:=Jd h;cases h;rfl
 split at h
 ·obtain⟨_,-,h⟩:=Jd h;obtain⟨_,-,h⟩:=Jd h;split at h
  ·cases h
  ·obtain⟨_,-,h⟩:=Jd h;cases h;rfl
 split at h
 ·obtain⟨_,-,h⟩:=Jd h;split at h
  ·cases h
  ·obtain⟨_,-,h⟩:=Jd h;obtain⟨_,-,h⟩:=Jd h;cases h;rfl
 split at h
 ·obtain⟨_,-,h⟩:=Jd h;obtain⟨_,-,h⟩:=Jd h;obtain⟨_,-,h⟩:=Jd h;cases h;rfl
 split at h
 ·obtain⟨_,-,h⟩:=Jd h;obtain⟨_,-,h⟩:=Jd h;obtain⟨_,-,h⟩:=Jd h;cases h;rfl
 split at h
 ·obtain⟨_,-,h⟩:=Jd h;cases h;rfl
 split at h
 ·obtain⟨_,-,h⟩:=Jd h;cases h;rfl
 split at h
 ·obtain⟨_,-,h⟩:=Jd h;cases h;rfl
 ·obtain⟨_,-,h⟩:=Jd h;cases h;rfl
theorem JkM{cs:List Cls}{U:List (List Nat)}(C:Cst cs U){r:Room}(hr:RmOk r){kind n:Jk}{ty:List Ty}{x0:Xp}{b e:List Sm}{a:Int}(hty:XX ty)(hvt:XI ty<=64800000)(hx:Q7 x0)(hvx:VY x0<=64800000){x:Sm×Room}(h:Jch cs U r kind n ty [x0] b e a=.ok x) :
  RmOk x.2/\x.2.vars.length=r.vars.length+1/\x.2.ret=r.ret:=by
 unfold Jch at h;split at h
 ·cases h
 split at h
 ·rename_i t ts;obtain⟨_,-,h⟩:=Jd h;obtain⟨t',ht,h⟩:=Jd h;obtain⟨_,-,h⟩:=Jd h;cases h;simp only[XX]at hty;simp only[XI]at hvt;obtain⟨h1,h2⟩:=JaV cs U _ _ _ ht;exact⟨Jfh hr ⟨.inl (h1 hty.1),O⟩ n false,by simp[Vz],rfl⟩
 ·obtain⟨y,hy,h⟩:=Jd h;split at h
  ·cases h
  ·cases h;exact⟨Jfh hr (C.of hr hx hvx hy) n false,by simp[Vz],rfl⟩
theorem Jn3{cs:List Cls}{U:List (List Nat)}{r:Room}{a:Int}:tyF cs U r (.mk 0 [] false [] [] a)=.ok (.mk 0 [] false [] [] a):=by simp only[tyF,YV,Jec,Except.bind]
theorem Jrg{cs:List Cls}{U:List (List Nat)}{r:Room}{t t':Ty}(h:DTy t)(ht:tyF cs U r t=.ok t'):DTy t'/\V6 t'=V6 t:=by
 obtain⟨h1,h2⟩:=JaV cs U t r t' ht;refine⟨⟨?_,by have:=h.2;omega⟩,?_⟩
 ·rcases h.1 with hw |⟨a,rfl⟩
  ·exact .inl (h1 hw)
  ·rw[Jn3]at ht;cases ht;exact .inr ⟨a,rfl⟩
 ·obtain⟨k,n,u,e,p,a⟩:=t;rw[tyF]at ht;obtain⟨e',-,ht⟩:=Jd ht;obtain⟨p',-,ht⟩:=Jd ht;cases ht;rfl
theorem Jbr{cs:List Cls}{U:List (List Nat)}:∀(l:List Par) {r:Room} {x:Room×List Par},RmOk r->(∀ p∈l,Vg p.type/\Xg p.type<=64800000)->XE cs U r l=.ok x->RmOk x.1/\x.1.vars.length=r.vars.length+l.length/\x.1.ret=r.ret/\x.1.inNew=r.inNew/\x.1.this=r.this/\x.1.pred=r.pred
 | [],r,x,hr,_,h=>by rw[XE]at h;cases h;exact⟨hr,rfl,rfl,rfl,rfl,rfl⟩
 | p::l,r,x,hr,hp,h=>by rw[XE]at h;obtain⟨t,ht,h⟩:=Jd h;obtain⟨y,hy,h⟩:=Jd h;cases h;obtain⟨h1,h2⟩:=JaV cs U _ _ _ ht;obtain⟨h3,h4⟩:=hp p Ag;obtain⟨h5,h6,h7,h8,h9,h10⟩:=Jbr l (Jfh hr ⟨.inl (h1 h3),O⟩ p.name true) (λp hp'=>hp p (by simp[hp'])) hy;refine⟨h5,?_,h7,h8,h9,h10⟩;rw[h6];simp[Vz];omega
variable {pr:Jz} {F:Nat->Option IFn} {b0 base:Nat} {Q:Ex->KC->St->Prop} {k:List Fr} {e:KC} {S:St} {prev items:List Item} {kp:List Nat} {ix:Nat} {d:Option Nat} {g:Option (Nat×Bool)}
def Xs(c:Int×Int):AV:=.iface 143 (.agg [.int .i64 c.1,.int .i64 c.2])
def KR{α:Type}(f:α->AV):Except (Int×Int) α->Res
 | .ok x=>.ret (f x)
 | .error c=>.panic (Xs c)
theorem KM{v:AV}(h:Q (.panic v) e S):Back pr F b0 Q k (.panic v) e S:=by
 induction k with
 | nil=>exact⟨h⟩
 | cons f k ih=>cases f <;> exact⟨ih.h⟩
theorem JBC{α:Type}{f:α->AV}{o:Except (Int×Int) α}{re:List Nat}{h:Opd}{as_:List Opd}{fn:Nat}{vs:List AV}{S':St}(hd:Det pr F fn vs S (KR f o) S')(hw:wanted g (Jj e)=some true)(hf:h.val (Jj e)=some (.func fn [] []))(ha:X9 as_ (Jj e)=some vs)
  (hx:∀ c,o=.error c->Q (.panic (Xs c)) e S') (ho:∀ x,o=.ok x->J8 prev re (KD e d (f x)) S'.heap base=true/\In pr F b0 Q base (⟨ix,d,g,.l (.call h as_) re⟩::prev) items kp k (KD e d (f x)) S') :
  In pr F b0 Q base prev (⟨ix,d,g,.l (.call h as_) re⟩::items) kp k e S:=by
 refine⟨?_⟩;simp only[wi];refine Jbg hw ?_;simp only[wl,hf,ha,Au,Ar];refine(hd _).2 ?_;cases o with
 | ok x=>exact⟨(ho x rfl).1,(ho x rfl).2.h⟩
 | error c=>exact(KM (hx c rfl)).h
theorem KV{re:List Nat}{h:Opd}{as_:List Opd}{fn:Nat}{vs:List AV}{S':St}{v:AV}(hd:Det pr F fn vs S (.panic v) S')(hw:wanted g (Jj e)=some true)(hf:h.val (Jj e)=some (.func fn [] []))(ha:X9 as_ (Jj e)=some vs)
  (hx:Q (.panic v) e S'):In pr F b0 Q base prev (⟨ix,d,g,.l (.call h as_) re⟩::items) kp k e S:=by
 refine⟨?_⟩;simp only[wi];refine Jbg hw ?_;simp only[wl,hf,ha,Au,Ar];exact(hd _).2 (KM hx).h
theorem JEl{re:List Nat}{x:Opd}{t:Nat}{v:AV}(hw:wanted g (Jj e)=some true)(hv:x.val (Jj e)=some (.iface t v))(hx:Q (.panic (.iface t v)) e S):In pr F b0 Q base prev (⟨ix,d,g,.l (.panic x) re⟩::items) kp k e S:=by refine⟨?_⟩;simp only[wi];refine Jbg hw ?_;simp only[wl,XN,hv];exact(KM hx).h
theorem JS{res:List RVar}{n0:Nat}{Q:Res->St->Prop}{c:Int×Int}{H0 H:List Blk}{rw:List Nat}(hH:H0.take n0=H)(h:Q (.panic (Xs c)) ⟨H,rw⟩):fin res n0 Q (.panic (Xs c)) e ⟨H0,rw⟩:=by subst hH;exact⟨rfl,h⟩
end Go.Proofs.YtmeakjgbjldkdaaGreat.Ai
namespace Go.Proofs
open YtmeakjgbjldkdaaGreat
open Go.Shelf
def Tryz.laysF6_ren:Go.Shelf.Ren:=⟨fun |6=>72 |15=>110 |14=>113 |28=>165 |29=>166 |20=>167 |21=>168 |22=>169 |23=>170 |24=>171 |25=>172 |26=>173 |27=>174 |46=>215 |47=>210 |48=>211 |49=>216 |50=>217 |57=>239 |n=>n,fun |22=>85 |24=>61 |25=>140 |3=>3 |39=>186 |0=>0 |53=>114 |55=>234 |4=>4 |46=>227 |45=>226 |50=>108 |5=>5 |9=>9 |66=>269 |70=>273 |76=>286 |77=>53 |n=>n,fun |n=>n⟩
theorem Tryz.laysF6:Go.Proofs.SlLaysF0.n6 Tryz.prog Tryz.laysF6_ren:={
 mixed:=Ai.Ae
 f6:=⟨Tryz.f72.name,Aj,Tryz.func72.trans (congrArg some Ai.Ae)⟩
 f14:=⟨Tryz.f113.name,Aj,Tryz.func113.trans (congrArg some Ai.Ae)⟩
 f15:=Tryz.func110.trans (congrArg some Ai.Ae)
 f20:=⟨Tryz.f167.name,Aj,Tryz.func167.trans (congrArg some Ai.Ae)⟩
 f21:=⟨Tryz.f168.name,Aj,Tryz.func168.trans (congrArg some Ai.Ae)⟩
 f22:=⟨Tryz.f169.name,Aj,Tryz.func169.trans (congrArg some Ai.Ae)⟩
 f23:=⟨Tryz.f170.name,Aj,Tryz.func170.trans (congrArg some Ai.Ae)⟩
 f24:=⟨Tryz.f171.name,Aj,Tryz.func171.trans (congrArg some Ai.Ae)⟩
 f25:=⟨Tryz.f172.name,Aj,Tryz.func172.trans (congrArg some Ai.Ae)⟩
 f26:=⟨Tryz.f173.name,Aj,Tryz.func173.trans (congrArg some Ai.Ae)⟩
 f27:=⟨Tryz.f174.name,Aj,Tryz.func174.trans (congrArg some Ai.Ae)⟩
 f28:=Tryz.func165.trans (congrArg some Ai.Ae)
 f29:=Tryz.func166.trans (congrArg some Ai.Ae)
 f46:=⟨Tryz.f215.name,Aj,Tryz.func215.trans (congrArg some Ai.Ae)⟩
 f47:=Tryz.func210.trans (congrArg some Ai.Ae)
 f48:=Tryz.func211.trans (congrArg some Ai.Ae)
 f49:=⟨Tryz.f216.name,Aj,Tryz.func216.trans (congrArg some Ai.Ae)⟩
 f50:=⟨Tryz.f217.name,Aj,Tryz.func217.trans (congrArg some Ai.Ae)⟩
 f57:=⟨Tryz.f239.name,Aj,Tryz.func239.trans (congrArg some Ai.Ae)⟩
 t0:=Tryz.underlying0
 a0:=Tryz.isAgg0
 z0:=Tryz.sizeOf0
 v0:=Tryz.zeroValue0
 t3:=Tryz.underlying3
 a3:=Tryz.isAgg3
 z3:=Tryz.sizeOf3
 v3:=Tryz.zeroValue3
 t4:=Tryz.underlying4
 a4:=Tryz.isAgg4
 z4:=Tryz.sizeOf4
 v4:=Tryz.zeroValue4
 t5:=Tryz.underlying5
 a5:=Tryz.isAgg5
 z5:=Tryz.sizeOf5
 v5:=Tryz.zeroValue5
 t9:=Tryz.underlying9
 a9:=Tryz.isAgg9
 z9:=Tryz.sizeOf9
 v9:=Tryz.zeroValue9
 t22:=Tryz.underlying85
 a22:=Tryz.isAgg85
 z22:=Tryz.sizeOf85
 v22:=Tryz.zeroValue85
 t25:=Tryz.underlying140
 a25:=Tryz.isAgg140
 z25:=Tryz.sizeOf140
 v25:=Tryz.zeroValue140
 t39:=Tryz.underlying186
 a39:=Tryz.isAgg186
 z39:=Tryz.sizeOf186
 v39:=Tryz.zeroValue186
 t45:=Tryz.underlying226
 a45:=Tryz.isAgg226
 z45:=Tryz.sizeOf226
 v45:=Tryz.zeroValue226
 t46:=Tryz.underlying227
 a46:=Tryz.isAgg227
 z46:=Tryz.sizeOf227
 v46:=Tryz.zeroValue227
 t50:=Tryz.underlying108
 a50:=Tryz.isAgg108
 z50:=Tryz.sizeOf108
 v50:=Tryz.zeroValue108
 t53:=Tryz.underlying114
 a53:=Tryz.isAgg114
 z53:=Tryz.sizeOf114
 v53:=Tryz.zeroValue114
 t55:=Tryz.underlying234
 a55:=Tryz.isAgg234
 z55:=Tryz.sizeOf234
 v55:=Tryz.zeroValue234
 t66:=Tryz.underlying269
 a66:=Tryz.isAgg269
 z66:=Tryz.sizeOf269
 v66:=Tryz.zeroValue269
 t70:=Tryz.underlying273
 a70:=Tryz.isAgg273
 z70:=Tryz.sizeOf273
 v70:=Tryz.zeroValue273
 t76:=Tryz.underlying286
 a76:=Tryz.isAgg286
 z76:=Tryz.sizeOf286
 v76:=Tryz.zeroValue286
 t77:=Tryz.underlying53
 a77:=Tryz.isAgg53
 z77:=Tryz.sizeOf53
 v77:=Tryz.zeroValue53}
end Go.Proofs
namespace Go.Proofs.YtmeakjgbjldkdaaGreat.Slo
open Go Go.Sort Go.Lib Go.Shelf
theorem J0g(a b:ByteArray)(v1 v2 v3 v4 v5 v6 v7 v8 v9 v10 v11 v12:Value)(u1 u2 u3 u4 u5 u6 u7 u8 u9 u10 u11 u12:Value)(W:World):Calls Tryz.prog 73 #[.agg #[.string a,v1,v2,v3,v4,v5,v6,v7,v8,v9,v10,v11,v12],.agg #[.string b,u1,u2,u3,u4,u5,u6,u7,u8,u9,u10,u11,u12]] W λe w'=>e=.returned (.int .i64 (Lib.compareBytes a.data.toList b.data.toList))/\∃ q os',w'=grow (W.drewN q) os':=by
 have hcon:=λW'=>Tryz.strings_Compare a b W';generalize Lib.compareBytes a.data.toList b.data.toList=r at hcon |-
 go_enter Tryz.func73,Tryz.ntmps73
 go_wp2_with (go_at_call 74;refine(hcon _).mono ?_;rintro e w' ⟨rfl,rfl⟩)
 go_ret
 exact⟨rfl,0,_,by rw[alloc_eq_grow,alloc_eq_grow,grow_grow];rfl⟩
end Go.Proofs.YtmeakjgbjldkdaaGreat.Slo
namespace Go.Proofs.YtmeakjgbjldkdaaGreat.Slo
open Go Go.Sort Go.Lib Go.Shelf Go.Proofs.YtmeakjgbjldkdaaGreat.Ai
theorem Ju6:∀ a b:List UInt8,Lib.compareBytes a b<0↔a<b
 | [],[]=>by simp[Lib.compareBytes]
 | [],_::_=>by simp[Lib.compareBytes]
 | _::_,[]=>by simp[Lib.compareBytes]
 | a::xs,b::ys=>by
  have ih:=Ju6 xs ys;unfold Lib.compareBytes;rw[List.cons_lt_cons_iff];by_cases h1:a<b
  ·simp[h1]
  ·rw[if_neg h1];by_cases h2:b<a
   ·rw[if_pos h2];have h3:a≠b:=λe=>by subst e;exact h1 h2
    simp[h1,h3]
   ·rw[if_neg h2,ih];have h3:a=b:=by rw[UInt8.not_lt]at h1 h2;exact UInt8.le_antisymm h2 h1
    simp[h3]
theorem Jjf(a b:List UInt8):ltOf Lib.compareBytes a b=decide (a<b):=by unfold ltOf;exact decide_eq_decide.2 (Ju6 a b)
theorem J3X:SWO (ltOf Lib.compareBytes) where
 irrefl x:=by rw[Jjf];simp[List.lt_irrefl]
 trans x y z h1 h2:=by rw[Jjf,decide_eq_true_eq]at *;exact List.lt_trans h1 h2
 ntrans x y z h1 h2:=by rw[Jjf,decide_eq_false_iff_not]at *;rw[List.not_lt]at *;exact D3 h2 h1
def Zd(rest:List UInt8->List Value)(k:List UInt8):List Value:=.string ⟨k.toArray⟩::rest k
theorem JNV(rest:List UInt8->List Value)(hr:∀ k,(rest k).length=12)(blk off size:Nat)(w:World):CmpLays Tryz.prog 73 #[] (Zd rest) 13 Lib.compareBytes blk off size w:=by
 intro m os dk hs x y;have h12:∀ l:List Value,l.length=12->∃ v1 v2 v3 v4 v5 v6 v7 v8 v9 v10 v11 v12,l=[v1,v2,v3,v4,v5,v6,v7,v8,v9,v10,v11,v12]:=λl h=>by
  match l,h with
  | [v1,v2,v3,v4,v5,v6,v7,v8,v9,v10,v11,v12],_=>exact⟨v1,v2,v3,v4,v5,v6,v7,v8,v9,v10,v11,v12,rfl⟩
 obtain⟨v1,v2,v3,v4,v5,v6,v7,v8,v9,v10,v11,v12,hv⟩:=h12 _ (hr x);obtain⟨u1,u2,u3,u4,u5,u6,u7,u8,u9,u10,u11,u12,hu⟩:=h12 _ (hr y);unfold Zd;rw[hv,hu];exact J0g ⟨x.toArray⟩ ⟨y.toArray⟩ v1 v2 v3 v4 v5 v6 v7 v8 v9 v10 v11 v12 u1 u2 u3 u4 u5 u6 u7 u8 u9 u10 u11 u12 _
theorem JNW(rest:List UInt8->List Value)(hr:∀ k,(rest k).length=12)(h1:∀ k,∀ v∈rest k,v.oneCell'=true)(blk off cap:Nat)(d:Array (List UInt8))(w:World)(hH:HoldsK (Zd rest) 13 w blk off d)(hblk:blk<w.heap.size)(hsz:d.size<4611686018427387904) :
  Calls Tryz.prog 72 #[.slice (some ⟨blk,off,none⟩) d.size cap,.func (.func 73) #[] #[]] w λe w'=>e=.returned (.tuple #[])/\∃ n os,w'=sortWorldK (Zd rest) 13 w blk off n (JdP d.toList).toArray os:=by
 have eg:∀ args w,(callFunc 73 args).run Tryz.prog w=.ok (.enter 73 args) w:=enters_of Tryz.func73 Ai.Ae rfl;have hcon:=AnyQ.slices_SortFunc_total Tryz.laysF6 13 Tryz.isAgg61 Tryz.sizeOf61 (Zd rest) (λk=>by simp[Zd,hr]) (λk v hv=>by
  rcases AS.1 hv with rfl |hv
  ·rfl
  ·exact h1 k v hv) Lib.compareBytes J3X 73 #[] blk off cap d w eg (JNV rest hr blk off d.size w) hH hblk hsz (λx y h1 h2=>by rw[Jjf,decide_eq_false_iff_not,List.not_lt]at h1 h2;exact DF h2 h1)
 have e:(λx y:List UInt8=>!(ltOf Lib.compareBytes) y x)=λx y=>decide (x<=y):=by
  funext x y
  rw[Jjf];by_cases h:y<x
  ·simp[h]
  ·simp[h,List.not_lt.1 h]
 rw[e,Ju0]at hcon;exact hcon
theorem Jn4(p:Option Addr)(cap:Nat)(fv:Value)(w:World):Calls Tryz.prog 72 #[.slice p 0 cap,fv] w λe w'=>e=.returned (.tuple #[])/\w'=w:=AnyF.slices_SortFunc_none Tryz.laysF6 p cap fv w
end Go.Proofs.YtmeakjgbjldkdaaGreat.Slo
namespace Go.Proofs.YtmeakjgbjldkdaaGreat.Once
open Go
end Go.Proofs.YtmeakjgbjldkdaaGreat.Once
namespace Go.Proofs.YtmeakjgbjldkdaaGreat.Slo
open Go Go.Sort Go.Lib
def JNX:Code->Code
 | .seq a _=>a
 | c=>c
def JpL:Code->Code
 | .seq _ b=>b
 | c=>c
end Go.Proofs.YtmeakjgbjldkdaaGreat.Slo
namespace Go.Proofs.YtmeakjgbjldkdaaGreat.Slo
open Go Go.Sort Go.Lib
theorem J0h(a:Act)(h:a.tmps.size=60)(hd:a.defers=[]):∃ t0 t1 t2 t3 t4 t5 t6 t7 t8 t9 t10 t11 t12 t13 t14 t15 t16 t17 t18 t19 t20 t21 t22 t23 t24 t25 t26 t27 t28 t29 t30 t31 t32 t33 t34 t35 t36 t37 t38 t39 t40 t41 t42 t43 t44 t45 t46 t47 t48 t49 t50 t51 t52 t53 t54 t55 t56 t57 t58 t59:Value,
  a={tmps:=#[t0,t1,t2,t3,t4,t5,t6,t7,t8,t9,t10,t11,t12,t13,t14,t15,t16,t17,t18,t19,t20,t21,t22,t23,t24,t25,t26,t27,t28,t29,t30,t31,t32,t33,t34,t35,t36,t37,t38,t39,t40,t41,t42,t43,t44,t45,t46,t47,t48,t49,t50,t51,t52,t53,t54,t55,t56,t57,t58,t59],defers:=[]}:=by
 obtain⟨⟨l⟩,d⟩:=a;simp only at h hd;subst hd;simp only[BZ]at h;match l,h with
 | t0::t1::t2::t3::t4::t5::t6::t7::t8::t9::t10::t11::t12::t13::t14::t15::t16::t17::t18::t19::t20::t21::t22::t23::t24::t25::t26::t27::t28::t29::t30::t31::t32::t33::t34::t35::t36::t37::t38::t39::t40::t41::t42::t43::t44::t45::t46::t47::t48::t49::t50::t51::t52::t53::t54::t55::t56::t57::t58::t59::[],_=>exact⟨t0,t1,t2,t3,t4,t5,t6,t7,t8,t9,t10,t11,t12,t13,t14,t15,t16,t17,t18,t19,t20,t21,t22,t23,t24,t25,t26,t27,t28,t29,t30,t31,t32,t33,t34,t35,t36,t37,t38,t39,t40,t41,t42,t43,t44,t45,t46,t47,t48,t49,t50,t51,t52,t53,t54,t55,t56,t57,t58,t59,rfl⟩
def a37:Code:=JNX (Tryz.f37.body.getD .skip)
def b37:Code:=JNX (JpL (Tryz.f37.body.getD .skip))
def Ju7:Code:=JNX (JpL (JpL (Tryz.f37.body.getD .skip)))
def Jf5:Code:=JpL (JpL (JpL (Tryz.f37.body.getD .skip)))
theorem JNY:Tryz.f37.body=some (.seq a37 (.seq b37 (.seq Ju7 Jf5))):=by unfold a37 b37 Ju7 Jf5 Tryz.f37;rfl
theorem JkN(sv:Value)(Q:Exit->Act->World->Prop)(R:World->Prop)(a:Act)(w:World)(hs:a.tmps.size=60)(hd:a.defers=[])(ha:a.tmps.getD 5 Go.undef=sv)
  (hc:Calls Tryz.prog 72 #[sv,.func (.func 73) #[] #[]] w λe w'=>e=.returned (.tuple #[])/\R w')
  (hQ:∀ a' w',a'.defers=[]->a'.tmps.size=60->a'.tmps.getD 4 Go.undef=sv->R w'->Q .ret a' w'):Jf5.wp Tryz.prog Q a w:=by
 obtain⟨t0,t1,t2,t3,t4,t5,t6,t7,t8,t9,t10,t11,t12,t13,t14,t15,t16,t17,t18,t19,t20,t21,t22,t23,t24,t25,t26,t27,t28,t29,t30,t31,t32,t33,t34,t35,t36,t37,t38,t39,t40,t41,t42,t43,t44,t45,t46,t47,t48,t49,t50,t51,t52,t53,t54,t55,t56,t57,t58,t59,rfl⟩:=J0h a hs hd;change t5=sv at ha;subst ha;clear hs hd;unfold Jf5 Tryz.f37;dsimp only[Option.getD_some,JpL]
 go_wp2_with (go_at_call 72;refine hc.mono ?_;rintro e w' ⟨rfl,hR⟩)
 exact hQ _ _ rfl rfl rfl hR
end Go.Proofs.YtmeakjgbjldkdaaGreat.Slo
namespace Go.Proofs.YtmeakjgbjldkdaaGreat.Ai
open Go
open Tr(pk)
variable {P:Program}
def Jrh:Tag->Bool
 | .row _ _=>false
 | _=>true
mutual
def VK:AV->Bool
 | .ptr .. |.arr .. |.map _ |.func ..=>false
 | .ref cs=>QI cs
 | .list _ tag rows=>Jrh tag && Xv rows
 | .iface _ v=>VK v
 | .agg cs=>QI cs
 | .tup cs=>QI cs
 | _=>true
def QI:List AV->Bool
 | []=>true
 | v::vs=>VK v && QI vs
def Xv:List (List AV)->Bool
 | []=>true
 | v::vs=>QI v && Xv vs
end
theorem Jri{K K':Ghost}(hg:∀ B l,K.g B=some l->K'.g B=some l){B o:Nat}{vs:List Value}(h:K.fix B o vs):K'.fix B o vs:=by obtain⟨l,h1,h2⟩:=h;exact⟨l,hg B l h1,h2⟩
theorem JNZ{K K':Ghost}(_hg:∀ B l,K.g B=some l->K'.g B=some l)(hn:∀ B l,K.g B=some l->K'.a B=none){sz:Nat}{tag:Tag}{len cap B o:Nat}{o':Nat}{vs:List Value}(hf:K.fix B o' vs)(ht:Jrh tag=true)(h:K.tagOk sz tag len cap B o):K'.tagOk sz tag len cap B o:=by
 obtain⟨l0,hf0,-⟩:=hf;replace h:=h.2;refine⟨λx hx=>(by rw[hn B l0 hf0]at hx;cases hx),?_⟩;cases tag with
 | full=>exact h
 | still=>exact hn B l0 hf0
 | dead=>trivial
 | row b e=>simp[Jrh]at ht
mutual
theorem Ff{Q:Prop}(h:Q:=by simpa only[Rep] using r):Q:=h
theorem Rep.plain{K K':Ghost}(hg:∀ B l,K.g B=some l->K'.g B=some l)(hn:∀ B l,K.g B=some l->K'.a B=none):∀(a:AV) (v:Value),Rep K a v->VK a=true->Rep K' a v
 | .bool _,_,r,_=>Ff
 | .int _ _,_,r,_=>Ff
 | .str _,_,r,_=>Ff
 | .nilp,_,r,_=>Ff
 | .nilm,_,r,_=>Ff
 | .nilf,_,r,_=>Ff
 | .nili,_,r,_=>Ff
 | .undef,_,r,_=>Ff
 | .ptr n off,v,r,hb=>by simp[VK]at hb
 | .map n,v,r,hb=>by simp[VK]at hb
 | .arr n off sz len,v,r,hb=>by simp[VK]at hb
 | .func f a b,v,r,hb=>by simp[VK]at hb
 | .ref cs,v,r,hb=>by simp only[Rep]at r |-;simp only[VK]at hb;obtain⟨B,o,vs,hv,hf,hr⟩:=r;exact⟨B,o,vs,hv,Jri hg hf,RepL.plain hg hn cs vs hr hb⟩
 | .list sz tag rows,v,r,hb=>by simp only[Rep]at r |-;simp only[VK,Ah]at hb;obtain⟨base,cap,hv,hc,hs,hr⟩:=r;refine⟨base,cap,hv,hc,hs,hr.imp id ?_⟩;rintro⟨B,o,vs,hb',hf,hr,ht⟩;exact⟨B,o,vs,hb',Jri hg hf,RepLL.plain hg hn rows vs hr hb.2,JNZ hg hn hf hb.1 ht⟩
 | .iface t x,v,r,hb=>by simp only[Rep]at r |-;simp only[VK]at hb;obtain⟨u,hv,h1⟩:=r;exact⟨u,hv,Rep.plain hg hn x u h1 hb⟩
 | .agg cs,v,r,hb=>by simp only[Rep]at r |-;simp only[VK]at hb;obtain⟨vs,hv,h1⟩:=r;exact⟨vs,hv,RepL.plain hg hn cs vs h1 hb⟩
 | .tup cs,v,r,hb=>by simp only[Rep]at r |-;simp only[VK]at hb;obtain⟨vs,hv,h1⟩:=r;exact⟨vs,hv,RepT.plain hg hn cs vs h1 hb⟩
theorem Fg{Q:Prop}(h:Q:=by simpa only[RepL] using r):Q:=h
theorem RepL.plain{K K':Ghost}(hg:∀ B l,K.g B=some l->K'.g B=some l)(hn:∀ B l,K.g B=some l->K'.a B=none):∀(a:List AV) (v:List Value),RepL K a v->QI a=true->RepL K' a v
 | [],_,r,_=>Fg
 | a::xs,v,r,hb=>by simp only[RepL]at r |-;simp only[QI,Ah]at hb;obtain⟨u,us,hv,h1,h2,h3⟩:=r;exact⟨u,us,hv,h1,Rep.plain hg hn a u h2 hb.1,RepL.plain hg hn xs us h3 hb.2⟩
theorem Fh{Q:Prop}(h:Q:=by simpa only[RepT] using r):Q:=h
theorem RepT.plain{K K':Ghost}(hg:∀ B l,K.g B=some l->K'.g B=some l)(hn:∀ B l,K.g B=some l->K'.a B=none):∀(a:List AV) (v:List Value),RepT K a v->QI a=true->RepT K' a v
 | [],_,r,_=>Fh
 | a::xs,v,r,hb=>by simp only[RepT]at r |-;simp only[QI,Ah]at hb;obtain⟨u,us,hv,h2,h3⟩:=r;exact⟨u,us,hv,Rep.plain hg hn a u h2 hb.1,RepT.plain hg hn xs us h3 hb.2⟩
theorem Fi{Q:Prop}(h:Q:=by simpa only[RepLL] using r):Q:=h
theorem RepLL.plain{K K':Ghost}(hg:∀ B l,K.g B=some l->K'.g B=some l)(hn:∀ B l,K.g B=some l->K'.a B=none):∀(a:List (List AV)) (v:List Value),RepLL K a v->Xv a=true->RepLL K' a v
 | [],_,r,_=>Fi
 | a::xs,v,r,hb=>by simp only[RepLL]at r |-;simp only[Xv,Ah]at hb;obtain⟨u,us,hv,h2,h3⟩:=r;exact⟨u,us,hv,RepL.plain hg hn a u h2 hb.1,RepLL.plain hg hn xs us h3 hb.2⟩
end
theorem Ext.repM{K K':Ghost}(h:Ext K K'):∀{es:List (Jk×AV)} {l:List MapEntry},RepM K es l->RepM K' es l
 | [],_,r=>by simpa only[RepM] using r
 | x::es,l,r=>by simp only[RepM]at r |-;obtain⟨m,ms',h1,h2,h3,h4⟩:=r;exact⟨m,ms',h1,h2,Rep.ext h _ _ h3,Ext.repM h h4⟩
def JN0:AV->Bool
 | .bool _ |.int .. |.str _=>true
 | _=>false
theorem JkO{K K':Ghost}:∀{vs:List AV} {us:List Value},(vs.all JN0)=true->RepT K vs us->RepT K' vs us
 | [],us,_,h=>by simpa only[RepT] using h
 | v::vs,us,hs,h=>by simp only[B1,Ah]at hs;simp only[RepT]at h |-;obtain⟨u,us',h1,h2,h3⟩:=h;refine⟨u,us',h1,?_,JkO hs.2 h3⟩;cases v <;> simp only[JN0,AT,false_and]at hs <;> simpa only[Rep] using h2
theorem Fj{Q:Prop}(h:Q:=by simp[K0]at h):Q:=h
theorem Jn5{K:Ghost}{S S':St}{w w':World}{v:AV}{e:Ending}(R:Rel K S w)(hp:VK v=true)(h:Xw K0 S0 w (.ret v) S' e w'):Xw K S w (.ret v) S e w':=by
 obtain⟨K',R',hst,-,u,rfl,hr⟩:=h;have hfr:∀ B,B<w.heap.size->w'.heap[B]? = w.heap[B]?:=λB hB=>hst.frame B hB (λn h=>Fj) rfl;have hnew:∀ B l,K'.g B=some l->w.heap.size<=B:=by intro B l h;refine Nat.le_of_not_lt λhB=>?_;have:=(hst.fresh B hB (λn h=>Fj) rfl).2;rw[h]at this;cases this
 have hgl:∀ B l,K.g B=some l->B<w.heap.size:=by intro B l h;obtain⟨vs,t,h1,-⟩:=R.rows B l h;exact(AQ.1 h1).1
 have hml:∀ n B,K.m n=some B->B<w.heap.size:=by
  intro n B h;have hn:=R.dom n B h;obtain⟨b,hb⟩:∃ b,S.heap[n]? = some b:=⟨_,Ab hn⟩
  cases b with
  | cells cs=>obtain⟨vs,t,h1,-⟩:=R.cells n B cs h hb;exact(AQ.1 h1).1
  | map es=>obtain⟨vs,t,h1,-⟩:=R.maps n B es h hb;exact(AQ.1 h1).1
 let K2:Ghost:=⟨K.m,λB=>match K.g B with |some l=>some l |none=>if w.heap.size<=B then K'.g B else none,K.a⟩
 have g1:∀ B l,K.g B=some l->K2.g B=some l:=by intro B l h;show(match K.g B with |some l=>some l |none=>if w.heap.size<=B then K'.g B else none)=some l;rw[h]
 have g2:∀ B l,K'.g B=some l->K2.g B=some l:=by
  intro B l h;have h1:=hnew B l h;have h2:K.g B=none:=by
   cases hk:K.g B with
   | none=>rfl
   | some x=>have:=hgl B x hk;omega
  show(match K.g B with |some l=>some l |none=>if w.heap.size<=B then K'.g B else none)=some l;rw[h2];simp only;rw[if_pos h1,h]
 have g3:∀ B l,K2.g B=some l->K.g B=some l\/(w.heap.size<=B/\K'.g B=some l):=by
  intro B l h;change (match K.g B with |some l=>some l |none=>if w.heap.size<=B then K'.g B else none)=some l at h;cases hk:K.g B with
  | some x=>rw[hk]at h;exact .inl h
  | none=>
   rw[hk]at h;simp only at h;split at h
   ·rename_i h1;exact .inr ⟨h1,h⟩
   ·cases h
 have g4:∀ B,B<w.heap.size->K.g B=none->K2.g B=none:=by
  intro B hB h;cases hk:K2.g B with
  | none=>rfl
  | some x=>
   rcases g3 B x hk with h1 |⟨h1,-⟩
   ·rw[h]at h1;cases h1
   ·omega
 have hx:Ext K K2:=⟨λn B h=>h,λB l h=>⟨[],by rw[g1 B l h,Ar]⟩,λB b E sz size h=>⟨E,h,Ao _,λl l' h1 h2=>by rw[g1 B l h1]at h2;cases h2;simp⟩,λ_ _ _ h=>h⟩
 have hnn:∀ B l,K'.g B=some l->K2.a B=none:=by
  intro B l h;have h1:=hnew B l h;cases ha:K.a B with
  | none=>rfl
  | some x=>obtain⟨b,E,sz,size⟩:=x;obtain⟨l0,hg0,-⟩:=R.grow B b E sz size ha;have:=hgl B l0 hg0;omega
 refine⟨K2,⟨R.dom,R.inj,λn B h=>g4 B (hml n B h) (R.sep n B h),λn B cs h hb=>?_,λn B es h hb=>?_,λB l h=>?_,λB b E sz size h=>?_⟩,
  ⟨hx,hst.os,hst.tape,hst.output,hst.size,λB hB _ _=>hfr B hB,λB hB h1 h2=>⟨h1,g4 B hB h2⟩,λn _ h=>h,λB x h=>.inl ⟨x,h⟩⟩,KY _ _,u,rfl,Rep.plain g2 hnn v u hr hp⟩
 ·obtain⟨vs,t,h1,h2⟩:=R.cells n B cs h hb;exact⟨vs,t,by rw[hfr B (hml n B h)];exact h1,RepL.ext hx _ _ h2⟩
 ·obtain⟨ms,ck,h1,h2⟩:=R.maps n B es h hb;exact⟨ms,ck,by rw[hfr B (hml n B h)];exact h1,hx.repM h2⟩
 ·rcases g3 B l h with h1 |⟨-,h1⟩
  ·obtain⟨vs,t,h2,h3⟩:=R.rows B l h1;exact⟨vs,t,by rw[hfr B (hgl B l h1)];exact h2,h3⟩
  ·exact R'.rows B l h1
 ·obtain⟨l,h1,⟨vs,t,h2,h3⟩,h4⟩:=R.grow B b E sz size h;exact⟨l,g1 B l h1,⟨vs,t,by rw[hfr B (hgl B l h1)];exact h2,h3⟩,h4⟩
theorem Jrj{cl:Ky}(hcs:VF P cl){f:Nat}{vs:List AV}{v:AV}{S':St}(hx:cl f vs S0=some (.ret v,S'))(hp:VK v=true)(hs:(vs.all JN0)=true){K:Ghost}{S:St}{w:World}{us:List Value}(R:Rel K S w)(ha:RepT K vs us) :
  ((callFunc f us.toArray).run P w=.ok (.enter f us.toArray) w/\Calls P f us.toArray w (Xw K S w (.ret v) S)) \/
  ∃ u w',(callFunc f us.toArray).run P w=.ok (.value u) w'/\Xw K S w (.ret v) S (.returned u) w':=by
 rcases hcs f vs S0 _ S' hx K0 w us (JST w) (λn b hn _=>by simp[S0]at hn) (JkO hs ha)with⟨h1,h2⟩ |⟨u,w',h1,h2⟩
 ·exact .inl ⟨h1,h2.mono λe w' h=>Jn5 R hp h⟩
 ·exact .inr ⟨u,w',h1,Jn5 R hp h2⟩
theorem JN1{K K':Ghost}(hg:∀ B l,K.g B=some l->K'.g B=some l/\K'.a B=K.a B){sz:Nat}{tag:Tag}{len cap B o:Nat}{o':Nat}{vs:List Value}(hf:K.fix B o' vs)(h:K.tagOk sz tag len cap B o):K'.tagOk sz tag len cap B o:=by
 obtain⟨l0,hf0,-⟩:=hf;obtain⟨g1,a1⟩:=hg B l0 hf0;refine⟨λx hx=>h.1 x (by rw[<- a1];exact hx),?_⟩;replace h:=h.2;cases tag with
 | full=>exact h
 | still=>show K'.a B=none;rw[a1];exact h
 | dead=>trivial
 | row b e=>obtain⟨⟨x,h1,h2⟩,h3⟩:=h;refine⟨⟨x,by rw[a1];exact h1,h2⟩,λhlt=>?_⟩;obtain⟨E,size,l,e1,e2,rest⟩:=h3 hlt;rw[hf0]at e2;simp only[V]at e2;subst e2;exact⟨E,size,_,by rw[a1];exact e1,g1,rest⟩
mutual
theorem Rep.closed{K K':Ghost}(hg:∀ B l,K.g B=some l->K'.g B=some l/\K'.a B=K.a B):∀(a:AV) (v:Value),Rep K a v->J7 a=true->Rep K' a v
 | .bool _,_,r,_=>Ff
 | .int _ _,_,r,_=>Ff
 | .str _,_,r,_=>Ff
 | .nilp,_,r,_=>Ff
 | .nilm,_,r,_=>Ff
 | .nilf,_,r,_=>Ff
 | .nili,_,r,_=>Ff
 | .undef,_,r,_=>Ff
 | .ptr n off,v,r,hb=>by simp[J7]at hb
 | .map n,v,r,hb=>by simp[J7]at hb
 | .arr n off sz len,v,r,hb=>by simp[J7]at hb
 | .func f a b,v,r,hb=>by simp only[Rep]at r |-;simp only[J7,Ah]at hb;obtain⟨us,vs,hv,h1,h2⟩:=r;exact⟨us,vs,hv,RepT.closed hg a us h1 hb.1,RepT.closed hg b vs h2 hb.2⟩
 | .ref cs,v,r,hb=>by simp only[Rep]at r |-;simp only[J7]at hb;obtain⟨B,o,vs,hv,hf,hr⟩:=r;exact⟨B,o,vs,hv,Jri (λB l h=>(hg B l h).1) hf,RepL.closed hg cs vs hr hb⟩
 | .list sz tag rows,v,r,_=>by simp only[Rep]at r |-;obtain⟨base,cap,hv,hc,hs,hr⟩:=r;refine⟨base,cap,hv,hc,hs,hr.imp id ?_⟩;rintro⟨B,o,vs,hb,hf,hr,ht⟩;exact⟨B,o,vs,hb,Jri (λB l h=>(hg B l h).1) hf,RepLL.closed hg rows vs hr (λr hr'=>(hs r hr').2),JN1 hg hf ht⟩
 | .iface t x,v,r,hb=>by simp only[Rep]at r |-;simp only[J7]at hb;obtain⟨u,hv,h1⟩:=r;exact⟨u,hv,Rep.closed hg x u h1 hb⟩
 | .agg cs,v,r,hb=>by simp only[Rep]at r |-;simp only[J7]at hb;obtain⟨vs,hv,h1⟩:=r;exact⟨vs,hv,RepL.closed hg cs vs h1 hb⟩
 | .tup cs,v,r,hb=>by simp only[Rep]at r |-;simp only[J7]at hb;obtain⟨vs,hv,h1⟩:=r;exact⟨vs,hv,RepT.closed hg cs vs h1 hb⟩
theorem RepL.closed{K K':Ghost}(hg:∀ B l,K.g B=some l->K'.g B=some l/\K'.a B=K.a B):∀(a:List AV) (v:List Value),RepL K a v->Kl a=true->RepL K' a v
 | [],_,r,_=>Fg
 | a::ts,v,r,hb=>by simp only[RepL]at r |-;simp only[Kl,Ah]at hb;obtain⟨u,us,hv,h1,h2,h3⟩:=r;exact⟨u,us,hv,h1,Rep.closed hg a u h2 hb.1,RepL.closed hg ts us h3 hb.2⟩
theorem RepT.closed{K K':Ghost}(hg:∀ B l,K.g B=some l->K'.g B=some l/\K'.a B=K.a B):∀(a:List AV) (v:List Value),RepT K a v->Kl a=true->RepT K' a v
 | [],_,r,_=>Fh
 | a::ts,v,r,hb=>by simp only[RepT]at r |-;simp only[Kl,Ah]at hb;obtain⟨u,us,hv,h2,h3⟩:=r;exact⟨u,us,hv,Rep.closed hg a u h2 hb.1,RepT.closed hg ts us h3 hb.2⟩
theorem RepLL.closed{K K':Ghost}(hg:∀ B l,K.g B=some l->K'.g B=some l/\K'.a B=K.a B):∀(a:List (List AV)) (v:List Value),RepLL K a v->(∀ r∈a,Kl r=true)->RepLL K' a v
 | [],_,r,_=>Fi
 | a::ts,v,r,hb=>by simp only[RepLL]at r |-;obtain⟨u,us,hv,h2,h3⟩:=r;exact⟨u,us,hv,RepL.closed hg a u h2 (hb a Ag),RepLL.closed hg ts us h3 (λr hr=>hb r (by simp[hr]))⟩
end
mutual
def Y1(bad:Nat->Bool):AV->Bool
 | .ptr .. |.arr .. |.map _ |.ref _=>false
 | .func _ a b=>Xk bad a && Xk bad b
 | .list sz _ rows=>!bad sz && XF bad rows
 | .iface _ v=>Y1 bad v
 | .agg cs=>Xk bad cs
 | .tup cs=>Xk bad cs
 | _=>true
def Xk(bad:Nat->Bool):List AV->Bool
 | []=>true
 | v::vs=>Y1 bad v && Xk bad vs
def XF(bad:Nat->Bool):List (List AV)->Bool
 | []=>true
 | v::vs=>Xk bad v && XF bad vs
end
def Nst(bad:Nat->Bool)(K K':Ghost):Prop:=∀ B l,K.g B=some l->(K'.g B=some l/\K'.a B=K.a B)\/∃ x,K.a B=some x/\bad x.2.2.1=true
theorem JBE{bad:Nat->Bool}{K K':Ghost}(hc:Nst bad K K'){sz:Nat}{tag:Tag}{len cap B o:Nat}{o':Nat}{vs:List Value}(hf:K.fix B o' vs)(hb:bad sz=false)(h:K.tagOk sz tag len cap B o):K'.fix B o' vs/\K'.tagOk sz tag len cap B o:=by
 obtain⟨l0,hf0,hf1⟩:=hf;rcases hc B l0 hf0 with⟨g1,a1⟩ |⟨x,h1,h2⟩
 ·refine⟨⟨l0,g1,hf1⟩,λx hx=>h.1 x (by rw[<- a1];exact hx),?_⟩;replace h:=h.2;cases tag with
  | full=>exact h
  | still=>show K'.a B=none;rw[a1];exact h
  | dead=>trivial
  | row b e=>obtain⟨⟨x,h1,h2⟩,h3⟩:=h;refine⟨⟨x,by rw[a1];exact h1,h2⟩,λhlt=>?_⟩;obtain⟨E,size,l,e1,e2,rest⟩:=h3 hlt;rw[hf0]at e2;simp only[V]at e2;subst e2;exact⟨E,size,_,by rw[a1];exact e1,g1,rest⟩
 ·rw[h.1 x h1,hb]at h2;cases h2
mutual
theorem Rep.nest{bad:Nat->Bool}{K K':Ghost}(hc:Nst bad K K'):∀(a:AV) (v:Value),Rep K a v->Y1 bad a=true->Rep K' a v
 | .bool _,_,r,_=>Ff
 | .int _ _,_,r,_=>Ff
 | .str _,_,r,_=>Ff
 | .nilp,_,r,_=>Ff
 | .nilm,_,r,_=>Ff
 | .nilf,_,r,_=>Ff
 | .nili,_,r,_=>Ff
 | .undef,_,r,_=>Ff
 | .ptr _ _,_,_,hb=>by simp[Y1]at hb
 | .map _,_,_,hb=>by simp[Y1]at hb
 | .arr _ _ _ _,_,_,hb=>by simp[Y1]at hb
 | .ref _,_,_,hb=>by simp[Y1]at hb
 | .func f a b,v,r,hb=>by simp only[Rep]at r |-;simp only[Y1,Ah]at hb;obtain⟨us,vs,hv,h1,h2⟩:=r;exact⟨us,vs,hv,RepT.nest hc a us h1 hb.1,RepT.nest hc b vs h2 hb.2⟩
 | .list sz tag rows,v,r,hb=>by simp only[Rep]at r |-;simp only[Y1,Ah,Bb]at hb;obtain⟨base,cap,hv,hcap,hs,hr⟩:=r;refine⟨base,cap,hv,hcap,hs,hr.imp id ?_⟩;rintro⟨B,o,vs,hb',hf,hr,ht⟩;obtain⟨hf2,ht2⟩:=JBE hc hf hb.1 ht;exact⟨B,o,vs,hb',hf2,RepLL.nest hc rows vs hr hb.2,ht2⟩
 | .iface t x,v,r,hb=>by simp only[Rep]at r |-;simp only[Y1]at hb;obtain⟨u,hv,h1⟩:=r;exact⟨u,hv,Rep.nest hc x u h1 hb⟩
 | .agg cs,v,r,hb=>by simp only[Rep]at r |-;simp only[Y1]at hb;obtain⟨vs,hv,h1⟩:=r;exact⟨vs,hv,RepL.nest hc cs vs h1 hb⟩
 | .tup cs,v,r,hb=>by simp only[Rep]at r |-;simp only[Y1]at hb;obtain⟨vs,hv,h1⟩:=r;exact⟨vs,hv,RepT.nest hc cs vs h1 hb⟩
theorem RepL.nest{bad:Nat->Bool}{K K':Ghost}(hc:Nst bad K K'):∀(a:List AV) (v:List Value),RepL K a v->Xk bad a=true->RepL K' a v
 | [],_,r,_=>Fg
 | a::xs,v,r,hb=>by simp only[RepL]at r |-;simp only[Xk,Ah]at hb;obtain⟨u,us,hv,h1,h2,h3⟩:=r;exact⟨u,us,hv,h1,Rep.nest hc a u h2 hb.1,RepL.nest hc xs us h3 hb.2⟩
theorem RepT.nest{bad:Nat->Bool}{K K':Ghost}(hc:Nst bad K K'):∀(a:List AV) (v:List Value),RepT K a v->Xk bad a=true->RepT K' a v
 | [],_,r,_=>Fh
 | a::xs,v,r,hb=>by simp only[RepT]at r |-;simp only[Xk,Ah]at hb;obtain⟨u,us,hv,h2,h3⟩:=r;exact⟨u,us,hv,Rep.nest hc a u h2 hb.1,RepT.nest hc xs us h3 hb.2⟩
theorem RepLL.nest{bad:Nat->Bool}{K K':Ghost}(hc:Nst bad K K'):∀(a:List (List AV)) (v:List Value),RepLL K a v->XF bad a=true->RepLL K' a v
 | [],_,r,_=>Fi
 | a::xs,v,r,hb=>by simp only[RepLL]at r |-;simp only[XF,Ah]at hb;obtain⟨u,us,hv,h2,h3⟩:=r;exact⟨u,us,hv,RepL.nest hc a u h2 hb.1,RepLL.nest hc xs us h3 hb.2⟩
end
def X8(K:Ghost)(B0:Nat)(l:List Value)(m Bm b:Nat):Ghost where
 m n:=if n=m then some Bm else none
 g B:=if B=B0 then some l else K.g B
 a B:=if B=B0 then some (b,0,999999,l.length)else K.a B
def Jg0(es:List (Jk×AV)):Bool:=es.all λx=>match x.2 with
 | .int _ _=>true
 | _=>false
theorem Fk{Q:Prop}(h:Q:=by simpa only[RepM] using h):Q:=h
theorem Jf6{K K':Ghost}:∀{es:List (Jk×AV)} {ms:List MapEntry},Jg0 es=true->RepM K es ms->RepM K' es ms
 | [],_,_,h=>Fk
 |(k,a)::es,ms,hb,h=>by simp only[RepM]at h |-;simp only[Jg0,B1,Ah]at hb;obtain⟨x,ms',h1,h2,h3,h4⟩:=h;refine⟨x,ms',h1,h2,?_,Jf6 hb.2 h4⟩;cases a <;> first |(simp at hb;done) |simpa only[Rep] using h3
theorem Fl{Q:Prop}(h:Q:=by have:=R.inj m n0 B0 (e ▸ hm) h0;rw[this,hc]at hM;simp at hM):Q:=h
theorem JBF{K:Ghost}{S:St}{w:World}(R:Rel K S w){n0 B0 m Bm:Nat}{cs:List AV}{es:List (Jk×AV)}(h0:K.m n0=some B0)(hc:S.heap[n0]? = some (.cells cs))(hm:K.m m=some Bm)(hM:S.heap[m]? = some (.map es))(hes:Jg0 es=true) :
  ∃ vs t,w.heap[B0]? = some (.cells vs t (0,0))/\RepL K cs vs.toList/\Rel (X8 K B0 vs.toList m Bm S.rows.length) ⟨S.heap,S.rows++[0]⟩ w:=by
 obtain⟨vs,t,e1,e2⟩:=R.cells n0 B0 cs h0 hc;have hne:Bm≠B0:=λe=>Fl
 refine⟨vs,t,e1,e2,?_,?_,?_,?_,?_,?_,?_⟩
 ·intro n B h;simp only[X8]at h;split at h
  ·subst n;exact R.dom m Bm hm
  ·simp at h
 ·intro n n' B h h';simp only[X8]at h h';split at h <;> split at h' <;> simp_all
 ·intro n B h;simp only[X8]at h |-;split at h
  ·simp only[V]at h;subst h;rw[if_neg hne];exact R.sep m Bm hm
  ·simp at h
 ·intro n B cs' h hb;simp only[X8]at h;split at h
  ·subst n;simp only[hM,V,reduceCtorEq]at hb
  ·simp at h
 ·intro n B es' h hb;simp only[X8]at h;split at h
  ·subst n;simp only[V]at h;subst h;simp only[hM,V,Blk.map.injEq]at hb;subst hb;obtain⟨ms,ck,h1,h2⟩:=R.maps m Bm es hm hM;exact⟨ms,ck,h1,Jf6 hes h2⟩
  ·simp at h
 ·intro B l h;simp only[X8]at h;split at h
  ·rename_i e;subst e;simp only[V]at h;subst h;exact⟨vs,t,e1,AB (Ao _)⟩
  ·exact R.rows B l h
 ·intro B b E sz size h;simp only[X8]at h |-;split at h
  ·rename_i e;subst e;simp only[V,AP]at h;obtain⟨rfl,rfl,rfl,rfl⟩:=h;refine⟨vs.toList,by rw[if_pos rfl],⟨vs,t,e1,Ag⟩,0,Ag,Ao _⟩
  ·rename_i e;obtain⟨l,h1,h2,r,h3,h4⟩:=R.grow B b E sz size h;refine⟨l,by rw[if_neg e];exact h1,h2,r,?_,h4⟩;show(S.rows++[0])[b]? = some r;rw[AZ (Ac.1 h3).1];exact h3
theorem CP{Q:Prop}(h:Q:=by simp[X8]):Q:=h
theorem Fm{Q:Prop}(h:Q:=by subst e;rw[R.sep n0 B h0]at h;simp at h):Q:=h
theorem Ju8{K:Ghost}{S:St}{w:World}(R:Rel K S w){n0 B0 m Bm b:Nat}{l:List Value}(h0:K.m n0=some B0)(hm:K.m m=some Bm):∀{cs:List AV} {vs:List Value},(∀ x∈cs,J7 x=true\/x=.map m)->RepL K cs vs->RepL (X8 K B0 l m Bm b) cs vs:=by
 have hgn:∀ B l,K.g B=some l->B≠B0:=λB l h e=>Fm
 have hg:∀ B l',K.g B=some l'->(X8 K B0 l m Bm b).g B=some l'/\(X8 K B0 l m Bm b).a B=K.a B:=λB l' h=>by simp only[X8];rw[if_neg (hgn B l' h),if_neg (hgn B l' h)];exact⟨h,rfl⟩
 intro cs;induction cs with
 | nil=>intro vs _ h;simpa only[RepL] using h
 | cons c cs ih=>
  intro vs hc h;simp only[RepL]at h |-;obtain⟨v,vs',h1,h2,h3,h4⟩:=h;refine⟨v,vs',h1,h2,?_,ih (λx hx=>hc x (A7 _ hx)) h4⟩;rcases hc c Bl with h5 |rfl
  ·exact Rep.closed hg c v h3 h5
  ·simp only[Rep]at h3 |-;obtain⟨B,h6,h7⟩:=h3;rw[hm]at h6;simp only[V]at h6;subst h6;exact⟨Bm,CP,h7⟩
theorem JBG{K:Ghost}{S:St}{w:World}(R:Rel K S w){n0 B0 m Bm b:Nat}{cs:List AV}{vs:Array Value}(h0:K.m n0=some B0)(hm:K.m m=some Bm)(hc:∀ x∈cs,J7 x=true\/x=.map m)(h:RepL K cs vs.toList):Rep (X8 K B0 vs.toList m Bm b) (.ref cs) (.pointer (some ⟨B0,0,none⟩)):=by simp only[Rep];exact⟨B0,0,vs.toList,rfl,⟨vs.toList,CP,AB (Ao _)⟩,Ju8 R h0 hm hc h⟩
theorem Ju9{K K2:Ghost}{S S2:St}{w w2:World}(R:Rel K S w){n0 B0 m Bm b:Nat}{X:Nat->Prop}{cs:List AV}{es:List (Jk×AV)}{vs:Array Value}{t:TypeId}(h0:K.m n0=some B0)(hc:S.heap[n0]? = some (.cells cs))(hm:K.m m=some Bm)(hM:S.heap[m]? = some (.map es))(hes:Jg0 es=true)
  (e1:w.heap[B0]? = some (.cells vs t (0,0))) (e2:RepL K cs vs.toList) (hst:Step (X8 K B0 vs.toList m Bm b) X w K2 w2) (R2:Rel K2 S2 w2) (hM2:S2.heap[m]? = some (.map es)):Rel K ⟨S.heap,S2.rows⟩ w2:=by
 have hgn:∀ B l,K.g B=some l->B≠B0:=λB l h e=>Fm
 have hne:Bm≠B0:=λe=>Fl
 have hm2:K2.m m=some Bm:=hst.ext.m m Bm CP;have fr:∀ n B,K.m n=some B->n≠m->n≠n0->B<w.heap.size->w2.heap[B]? = w.heap[B]?:=λn B hn h1 h2 hlt=>by
  refine hst.frame B hlt (λk hk=>?_) ?_
  ·simp only[X8]at hk;split at hk
   ·simp only[V]at hk;subst hk;exact h1 (R.inj n m _ hn hm)
   ·simp at hk
  ·simp only[X8];rw[if_neg (λe=>h2 (R.inj n n0 B hn (by rw[e];exact h0)))];exact R.sep n B hn
 have hB0:∃ t',w2.heap[B0]? = some (.cells vs t' (0,0)):=by
  obtain⟨E',ha,-,hl⟩:=hst.ext.a B0 b 0 999999 vs.toList.length CP;obtain⟨x,hx⟩:=hst.ext.g B0 vs.toList CP;have hlen:=hl vs.toList _ CP hx;obtain⟨l',g1,⟨us,t',g2,g3⟩,-⟩:=R2.grow B0 b E' 999999 _ ha;obtain⟨us',t'',g4,g5⟩:=R2.rows B0 _ hx;have:=g2.symm.trans g4;simp only[V,Obj.cells.injEq]at this;obtain⟨rfl,rfl,-⟩:=this;have hx0:x=[]:=by have h6:=congrArg List.length g5;rw[A8,AG]at h6;simp only[Bu]at h6 g3;have h7:x.length=0:=O;exact Bz.1 h7
  subst hx0;rw[Ar]at g5;refine⟨t',?_⟩;have:us=vs:=by apply Cr;rw[<- g5,AB];simp at g3 |-;omega
  rw[<- this];exact g2
 refine⟨R.dom,R.inj,R.sep,?_,?_,?_,?_⟩
 ·intro n B cs' hn hb;by_cases h2:n=n0
  ·subst h2;rw[h0]at hn;simp only[V]at hn;subst hn;simp only[hc,V,Blk.cells.injEq]at hb;subst hb;obtain⟨t',g⟩:=hB0;exact⟨vs,t',g,e2⟩
  ·have h1:n≠m:=λe=>by subst e;simp only[hM,V,reduceCtorEq]at hb
   obtain⟨us,t',g1,g2⟩:=R.cells n B cs' hn hb;exact⟨us,t',by rw[fr n B hn h1 h2 (AQ.1 g1).1];exact g1,g2⟩
 ·intro n B es' hn hb;by_cases h1:n=m
  ·subst h1;rw[hm]at hn;simp only[V]at hn;subst hn;simp only[hM,V,Blk.map.injEq]at hb;subst hb;obtain⟨ms,ck,g1,g2⟩:=R2.maps _ _ es hm2 hM2;exact⟨ms,ck,g1,Jf6 hes g2⟩
  ·have h2:n≠n0:=λe=>by subst e;simp only[hc,V,reduceCtorEq]at hb
   obtain⟨us,t',g1,g2⟩:=R.maps n B es' hn hb;exact⟨us,t',by rw[fr n B hn h1 h2 (AQ.1 g1).1];exact g1,g2⟩
 ·intro B l h;obtain⟨x,hx⟩:=hst.ext.g B l (by simp only[X8];rw[if_neg (hgn B l h)];exact h);obtain⟨us,t',g1,g2⟩:=R2.rows B _ hx;refine⟨us,t',g1,?_⟩;have:=congrArg (List.take l.length) g2;have h5:min l.length (l++x).length=l.length:=Ag;rw[List.take_take,h5,CV]at this;exact this
 ·intro B b' E sz size h;obtain⟨l,h1,-,-⟩:=R.grow B b' E sz size h;obtain⟨E',ha,hle,-⟩:=hst.ext.a B b' E sz size (by simp only[X8];rw[if_neg (hgn B l h1)];exact h);obtain⟨l2,g1,g2,r,g3,g4⟩:=R2.grow B b' E' sz size ha;exact⟨l,h1,g2,r,g3,BX hle g4⟩
def JcY:List (List AV)->Option (List Jk)
 | []=>some []
 | [.str s]::rs=>match JcY rs with
  | some l=>some (s::l)
  | none=>none
 | _=>none
def Jeg(k:Nat):List Jk->Nat
 | []=>0
 | s::l=>s.length+k+Jeg k l
def Jg1:Ky->List AV->St->Option (Res×St):=λ_ vs S=>match vs with
 | [.list _ _ rows,.str sep]=>match JcY rows with
  | some l=>if Jeg sep.length l<=2147483648/\l.length<=2147483648 then some (.ret (.str (Xb sep l)),S)else none
  | none=>none
 | _=>none
theorem JsM{K:Ghost}{S:St}{w w':World}(R:Rel K S w)(h:RowKit.Below w.heap.size w w'):Rel K S w'/\∀ X,Step K X w K w':=by
 have hb:∀ B b,w.heap[B]? = some b->w'.heap[B]? = some b:=λB b hB=>by rw[h.block B (AQ.1 hB).1];exact hB
 refine⟨⟨R.dom,R.inj,R.sep,λn B cs h1 h2=>?_,λn B es h1 h2=>?_,λB l h1=>?_,λB b E sz size h1=>?_⟩,λX=>⟨Ext.refl K,h.os,h.tape,h.output,h.size,λB hB _ _=>h.block B hB,λB _ h1 h2=>⟨h1,h2⟩,λ_ _ h=>h,λ_ x h=>.inl ⟨x,h⟩⟩⟩
 ·obtain⟨vs,t,e1,e2⟩:=R.cells n B cs h1 h2;exact⟨vs,t,hb _ _ e1,e2⟩
 ·obtain⟨vs,t,e1,e2⟩:=R.maps n B es h1 h2;exact⟨vs,t,hb _ _ e1,e2⟩
 ·obtain⟨vs,t,e1,e2⟩:=R.rows B l h1;exact⟨vs,t,hb _ _ e1,e2⟩
 ·obtain⟨l,e0,⟨vs,t,e1,e2⟩,e3⟩:=R.grow B b E sz size h1;exact⟨l,e0,⟨vs,t,hb _ _ e1,e2⟩,e3⟩
theorem Jn6(sep:Jk):∀ l:List Jk,Lib.join l sep=Xb sep l:=by
 intro l;induction l with
 | nil=>rfl
 | cons x l ih=>
  cases l with
  | nil=>simp[Lib.join_one,Xb]
  | cons y l=>rw[Lib.join_cons]at ih |-;simp only[Xb,<- ih];simp[Lib.joinTail]
theorem JsN{K:Ghost}:∀{rows:List (List AV)} {l:List Jk} {vs:List Value},JcY rows=some l->RepLL K rows vs->vs=l.map (λs=>Value.string ⟨s.toArray⟩)/\rows.length=l.length:=by
 intro rows;induction rows with
 | nil=>intro l vs h h2;simp only[JcY,V]at h;subst h;simp only[RepLL]at h2;subst h2;exact⟨rfl,rfl⟩
 | cons r rows ih=>
  intro l vs h h2;unfold JcY at h;split at h
  ·simp at *
  ·rename_i s rs heq;injection heq with e1 e2;subst e1 e2;split at h
   ·rename_i l' hl';simp only[V]at h;subst h;simp only[RepLL,RepL,Rep]at h2;obtain⟨u,us,rfl,⟨v,vs',rfl,-,rfl,rfl⟩,h3⟩:=h2;obtain⟨e1,e2⟩:=ih hl' h3;exact⟨by rw[e1];rfl,by simp[e2]⟩
   ·simp at h
  ·simp at h
theorem Jn7(sep:Jk):∀ l:List Jk,(Xb sep l).length<=Jeg sep.length l:=by
 intro l;induction l with
 | nil=>simp[Xb]
 | cons x l ih=>
  cases l with
  | nil=>simp[Xb,Jeg]
  | cons y l=>simp only[Xb,AG,Jeg]at ih |-;omega
theorem Fo{Q:Prop}(h:Q:=by simpa using h2):Q:=h
theorem JBH(us:Array Value)(w:World):(callFunc 54 us).run Tryz.prog w=.ok (.enter 54 us) w:=by
 have hf:=Tryz.func54;have hb:Tryz.f54.body.isSome=true:=Ae;have h2:(Tryz.f54.name != "runtime.NumGoroutine")=true:=Ae;obtain⟨c,hc⟩:=BQ.1 hb;have h3:¬Tryz.f54.name = "runtime.NumGoroutine":=Fo
 simp[callFunc,hf,h3,hc]
theorem Jn8:ZL Tryz.prog 54 Jg1:=by
 intro cl hcl vs S r S' hp K w us R hI ha;unfold Jg1 at hp;split at hp
 ·rename_i sz tag rows sep;split at hp
  ·rename_i l hl;split at hp
   ·rename_i hsz;simp only[V,AP]at hp;obtain⟨rfl,rfl⟩:=hp;simp only[RepT,Rep]at ha;obtain⟨v1,us1,rfl,⟨base,cap,rfl,hcap,-,hb⟩,v2,us2,rfl,rfl,rfl⟩:=ha;refine .inl ⟨JBH _ _,?_⟩;have hlj:=Jn7 sep l;rcases hb with⟨rfl,rfl,rfl⟩ |⟨B,o,vs,rfl,hfix,hrep,-⟩
    ·simp only[JcY,V]at hl;subst hl;refine(Tryz.strings_Join_none none 0 ⟨sep.toArray⟩ w).mono ?_;rintro e w' ⟨rfl,rfl⟩;exact⟨K,R,Step.refl K _ _,KY _ _,_,rfl,by simp[Rep,Xb]⟩
    ·obtain⟨hvs,hlen⟩:=JsN hl hrep;subst hvs;have hfix0:=hfix;obtain⟨lg,hg,-⟩:=hfix;obtain⟨va,t,hva,-⟩:=R.rows B lg hg;have hBs:B<w.heap.size:=(AQ.1 hva).1;have hdl:((l.map λs=>(⟨s.toArray⟩:ByteArray)).map (·.data.toList))=l:=by
      rw[DA]
      conv=>rhs;rw[<- List.map_id l]
      exact Dq λs _=>rfl
     have hJ:=Tryz.strings_Join B o cap (l.map λs=>(⟨s.toArray⟩:ByteArray)) ⟨sep.toArray⟩ w (λj x hx=>by
      rw[Ax]at hx;cases hj:l[j]? with
      | none=>rw[hj]at hx;simp at hx
      | some s=>rw[hj]at hx;simp only[A9,V]at hx;subst hx;exact R.fix_cell hfix0 j _ (by rw[Ax,hj];rfl)) hBs (by rw[Ak];omega) (by rw[Ak];omega) (by
      rw[hdl,Jn6];exact BX hlj O)
     rw[Ak,<- hlen]at hJ;refine hJ.mono ?_;rintro e w' ⟨rfl,hbel⟩;obtain⟨R',hst⟩:=JsM R hbel;refine⟨K,R',hst _,KY _ _,_,rfl,?_⟩;simp only[Rep];rw[hdl,Jn6]
   ·simp at hp
  ·simp at hp
 ·simp at hp
theorem JN2{K:Ghost}{S:St}{w:World}(R:Rel K S w){n B:Nat}(h:K.m n=some B):B<w.heap.size:=by
 have hn:=R.dom n B h;obtain⟨b,hb⟩:∃ b,S.heap[n]? = some b:=⟨_,Ab hn⟩
 cases b with
 | cells cs=>obtain⟨vs,t,e1,-⟩:=R.cells n B cs h hb;exact(AQ.1 e1).1
 | map es=>obtain⟨vs,t,e1,-⟩:=R.maps n B es h hb;exact(AQ.1 e1).1
theorem JN3{K:Ghost}{S:St}{w:World}(R:Rel K S w){B:Nat}{l:List Value}(h:K.g B=some l):B<w.heap.size:=by obtain⟨vs,t,e1,-⟩:=R.rows B l h;exact(AQ.1 e1).1
variable {P:Program}
theorem Jfj{b0:Nat}{cl:Ky}{n:Nat}{a b:IC}{e e2:KC}{S S2:St}(h:Qr b0 cl n (.seq a b) e S=some (.normal,e2,S2)):∃ e1 S1,Qr b0 cl n a e S=some (.normal,e1,S1)/\Qr b0 cl n b e1 S1=some (.normal,e2,S2):=by
 simp only[Qr]at h;split at h
 ·rename_i e1 S1 h1;exact⟨e1,S1,h1,h⟩
 ·rename_i hne;exact absurd h (hne _ _)
theorem Jf7{b0 nt n:Nat}{cl:Ky}(hcl:VF P cl){ic:IC}{c:Code}{K:Ghost}{S S':St}{w:World}{a:Act}{e e':KC}(hc:Yn P nt ic c=true)(R:Rel K S w)(hI:VL S.heap.length S)(E:EnvRep K (Jj e) a.tmps)(hnt:nt<=a.tmps.size)(hb0:b0<=S.heap.length)
  (hx:Qr b0 cl n ic e S=some (.normal,e',S')) {Q:Exit->Act->World->Prop}
  (hQ:∀ a' w' K',Rel K' S' w'->EnvRep K' (Jj e') a'.tmps->a'.defers=a.defers->a'.tmps.size=a.tmps.size->Step K (λn=>n<S.heap.length) w K' w'->Keeps b0 S S'->Q .normal a' w'):c.wp P Q a w:=
 Jdx hcl ic c K S w a e _ hc R hI E hnt hb0 hx Q (λa' w' K' en R' E' hd hs hst hk hex=>by
  cases en <;> simp only[Exr]at hex
  exact hQ a' w' K' R' (E' trivial) hd (hs trivial) hst hk)
def Zn(s:Nat):Bool:=s == 13 || s == 999999
def Ja1(K K1:Ghost)(B0:Nat):Ghost:={m:=K.m,g:=λB=>if B=B0 then none else K1.g B,a:=λB=>if B=B0 then none else K1.a B}
theorem Jrk{K K1:Ghost}{S S1:St}{w w1:World}(R:Rel K S w){n0 B0 m Bm b:Nat}{X:Nat->Prop}{cs:List AV}{es:List (Jk×AV)}{vs:Array Value}{t:TypeId}(h0:K.m n0=some B0)(hc:S.heap[n0]? = some (.cells cs))(hm:K.m m=some Bm)(hM:S.heap[m]? = some (.map es))(hes:Jg0 es=true)
  (e1:w.heap[B0]? = some (.cells vs t (0,0))) (e2:RepL K cs vs.toList) (hst:Step (X8 K B0 vs.toList m Bm b) X w K1 w1) (R1:Rel K1 S1 w1) (hM1:S1.heap[m]? = some (.map es)) :
  Rel K ⟨S.heap,S1.rows⟩ w1/\Rel (Ja1 K K1 B0) ⟨S.heap,S1.rows⟩ w1/\(∀ Y,Step K Y w (Ja1 K K1 B0) w1)/\Nst Zn K1 (Ja1 K K1 B0):=by
 have Rb:=Ju9 R h0 hc hm hM hes e1 e2 hst R1 hM1;have hgn:∀ B l,K.g B=some l->B≠B0:=λB l h e=>Fm
 have hog:∀ B,B≠B0->(X8 K B0 vs.toList m Bm b).g B=K.g B/\(X8 K B0 vs.toList m Bm b).a B=K.a B:=λB h=>by simp only[X8];rw[if_neg h,if_neg h];exact⟨rfl,rfl⟩
 have hx:Ext K (Ja1 K K1 B0):=by
  refine⟨λ_ _ h=>h,λB l h=>?_,λB b E sz size h=>?_,λB l hg h=>?_⟩
  ·obtain⟨x,hx⟩:=hst.ext.g B l (by rw[(hog B (hgn B l h)).1];exact h);exact⟨x,by simp only[Ja1];rw[if_neg (hgn B l h)];exact hx⟩
  ·obtain⟨l,hl,-⟩:=R.grow B b E sz size h;have hne:=hgn B l hl;obtain⟨E',h1,h2,h3⟩:=hst.ext.a B b E sz size (by rw[(hog B hne).2];exact h);refine⟨E',by simp only[Ja1];rw[if_neg hne];exact h1,h2,λx y hx hy=>?_⟩;simp only[Ja1]at hy;rw[if_neg hne]at hy;exact h3 x y (by rw[(hog B hne).1];exact hx) hy
  ·have hne:=hgn B l hg;simp only[Ja1];rw[if_neg hne];exact hst.ext.n B l (by rw[(hog B hne).1];exact hg) (by rw[(hog B hne).2];exact h)
 have hm1:K1.m m=some Bm:=hst.ext.m m Bm CP;have hout:∀ B,(∀ n,K.m n≠some B)->K.g B=none->(∀ n,(X8 K B0 vs.toList m Bm b).m n≠some B)/\(X8 K B0 vs.toList m Bm b).g B=none:=λB h1 h2=>by
  refine⟨λn hn=>?_,?_⟩
  ·simp only[X8]at hn;split at hn
   ·simp only[V]at hn;subst hn;exact h1 m hm
   ·simp at hn
  ·rw[(hog B (λe=>h1 n0 (by rw[e];exact h0))).1];exact h2
 refine⟨Rb,⟨R.dom,R.inj,λn B h=>?_,λn B cs' h hb=>?_,λn B es' h hb=>?_,λB l h=>?_,λB b' E sz size h=>?_⟩,λY=>⟨hx,hst.os,hst.tape,hst.output,hst.size,λB hB h1 h2=>?_,λB hB h1 h2=>?_,λ_ _ h=>h,λB x h=>?_⟩,λB l h=>?_⟩
 ·show(if B=B0 then none else K1.g B)=none;split
  ·rfl
  ·rename_i hne;by_cases hnm:n=m
   ·subst hnm;change K.m n=some B at h;rw[hm]at h;simp only[V]at h;subst h;exact R1.sep n Bm hm1
   ·have hlt:B<w.heap.size:=JN2 R h;refine(hst.fresh B hlt (λk hk=>?_) ?_).2
    ·simp only[X8]at hk;split at hk
     ·simp only[V]at hk;subst hk;exact hnm (R.inj n m _ h hm)
     ·simp at hk
    ·rw[(hog B hne).1];exact R.sep n B h
 ·obtain⟨vs',t',h1,h2⟩:=Rb.cells n B cs' h hb;exact⟨vs',t',h1,RepL.ext hx _ _ h2⟩
 ·obtain⟨ms,ck,h1,h2⟩:=Rb.maps n B es' h hb;exact⟨ms,ck,h1,h2.ext hx⟩
 ·simp only[Ja1]at h;split at h
  ·simp at h
  ·exact R1.rows B l h
 ·simp only[Ja1]at h;split at h
  ·simp at h
  ·rename_i hne;obtain⟨l,h1,h2⟩:=R1.grow B b' E sz size h;exact⟨l,by simp only[Ja1];rw[if_neg hne];exact h1,h2⟩
 ·obtain⟨h3,h4⟩:=hout B h1 h2;exact hst.frame B hB h3 h4
 ·obtain⟨h3,h4⟩:=hout B h1 h2;refine⟨h1,?_⟩;simp only[Ja1];split
  ·rfl
  ·exact(hst.fresh B hB h3 h4).2
 ·simp only[Ja1]at h;split at h
  ·simp at h
  ·rename_i hne;rcases hst.born B x h with⟨y,hy⟩ |h5
   ·exact .inl ⟨y,by rw[<- (hog B hne).2];exact hy⟩
   ·exact .inr h5
 ·by_cases hB:B=B0
  ·right;subst hB;obtain⟨E',h1,-,-⟩:=hst.ext.a B b 0 999999 vs.toList.length CP;exact⟨_,h1,rfl⟩
  ·left;simp only[Ja1];rw[if_neg hB,if_neg hB];exact⟨h,rfl⟩
def Ja2(K:Ghost)(Br:Nat)(l:List Value):Ghost:={K with g:=λB=>if B=Br then some l else K.g B,a:=λB=>if B=Br then none else K.a B}
theorem JBI{K Km:Ghost}{S S':St}{w w1 w2:World}(R0:Rel K S w)(Rb:Rel K S' w1)(R:Rel Km S' w1){Y:Nat->Prop}(hst:Step K Y w Km w1){Br:Nat}{lr l':List Value}(hnew:w.heap.size<=Br)(hg:Km.g Br=some lr)(hk:Km.m=K.m)
  (hos:w2.os=w1.os) (htape:w2.tape=w1.tape) (hout:w2.output=w1.output) (hsize:w1.heap.size<=w2.heap.size) (hoth:∀ B,B<w1.heap.size->B≠Br->w2.heap[B]? = w1.heap[B]?)
  {cur:Array Value} {t:TypeId} (hcur:w2.heap[Br]? = some (.cells cur t (0,0))) (hl:cur.toList.take l'.length=l') :
  Rel (Ja2 Km Br l') S' w2/\Step K Y w (Ja2 Km Br l') w2:=by
 have hmne:∀ n B,Km.m n=some B->B≠Br:=λn B h e=>by have:=R.sep n B h;rw[e,hg]at this;cases this
 have hKg:∀ B l,K.g B=some l->B≠Br:=λB l h e=>by have:=JN3 R0 h;omega
 have hx:Ext K (Ja2 Km Br l'):=by
  refine⟨hst.ext.m,λB l h=>?_,λB b E sz size h=>?_,λB l h1 h2=>?_⟩
  ·simp only[Ja2];rw[if_neg (hKg B l h)];exact hst.ext.g B l h
  ·obtain⟨l0,hl0,-⟩:=R0.grow B b E sz size h;obtain⟨E',h1,h2,h3⟩:=hst.ext.a B b E sz size h;refine⟨E',by simp only[Ja2];rw[if_neg (hKg B l0 hl0)];exact h1,h2,λx y hx hy=>h3 x y hx ?_⟩;simp only[Ja2]at hy;rw[if_neg (hKg B x hx)]at hy;exact hy
  ·simp only[Ja2];rw[if_neg (hKg B l h1)];exact hst.ext.n B l h1 h2
 refine⟨⟨R.dom,R.inj,λn B h=>?_,λn B cs' h hb=>?_,λn B es' h hb=>?_,λB l h=>?_,λB b' E sz size h=>?_⟩,⟨hx,hos.trans hst.os,htape.trans hst.tape,hout.trans hst.output,BX hst.size hsize,λB hB h1 h2=>?_,λB hB h1 h2=>?_,λn hn h=>hst.back n hn h,λB x h=>?_⟩⟩
 ·show(if B=Br then some l' else Km.g B)=none;have hne:B≠Br:=hmne n B h;rw[if_neg hne];exact R.sep n B h
 ·have hKm:K.m n=some B:=by rw[<- hk];exact h
  obtain⟨vs',t',h1,h2⟩:=Rb.cells n B cs' hKm hb;exact⟨vs',t',by rw[hoth B (JN2 Rb hKm) (hmne n B h)];exact h1,RepL.ext hx _ _ h2⟩
 ·have hKm:K.m n=some B:=by rw[<- hk];exact h
  obtain⟨ms,ck,h1,h2⟩:=Rb.maps n B es' hKm hb;exact⟨ms,ck,by rw[hoth B (JN2 Rb hKm) (hmne n B h)];exact h1,h2.ext hx⟩
 ·simp only[Ja2]at h;split at h
  ·rename_i e;subst e;simp only[V]at h;subst h;exact⟨cur,t,hcur,hl⟩
  ·rename_i hne;obtain⟨vs',t',h1,h2⟩:=R.rows B l h;exact⟨vs',t',by rw[hoth B (JN3 R h) hne];exact h1,h2⟩
 ·simp only[Ja2]at h;split at h
  ·simp at h
  ·rename_i hne;obtain⟨l,h1,⟨vs',t',h2,h3⟩,h4⟩:=R.grow B b' E sz size h;refine⟨l,by simp only[Ja2];rw[if_neg hne];exact h1,⟨vs',t',by rw[hoth B (JN3 R h1) hne];exact h2,h3⟩,h4⟩
 ·have hne:B≠Br:=by omega
  rw[hoth B (Bh hB hst.size) hne];exact hst.frame B hB h1 h2
 ·obtain⟨h3,h4⟩:=hst.fresh B hB h1 h2;refine⟨h3,?_⟩;simp only[Ja2];rw[if_neg O];exact h4
 ·simp only[Ja2]at h;split at h
  ·simp at h
  ·exact hst.born B x h
theorem JBJ{bad:Nat->Bool}{K1 Km:Ghost}(h:Nst bad K1 Km){Br:Nat}{l':List Value}{x:Nat×Nat×Nat×Nat}(ha:K1.a Br=some x)(hb:bad x.2.2.1=true):Nst bad K1 (Ja2 Km Br l'):=by
 intro B l hg;by_cases hB:B=Br
 ·subst hB;exact .inr ⟨x,ha,hb⟩
 ·rcases h B l hg with⟨h1,h2⟩ |h3
  ·left;simp only[Ja2];rw[if_neg hB,if_neg hB];exact⟨h1,h2⟩
  ·exact .inr h3
open Go Go.Sort Go.Proofs.YtmeakjgbjldkdaaGreat.Slo
def Ja3:List (List AV)->Option (List Jk)
 | []=>some []
 |(.str k::_)::rs=>match Ja3 rs with
  | some l=>some (k::l)
  | none=>none
 | _=>none
def Ja4(k:Jk):List Jk->List (List AV)->List AV
 | k'::ks,r::rs=>if k'=k then r else Ja4 k ks rs
 | _,_=>[]
def Jbs(ks:List Jk)(rows:List (List AV)):List (List AV):=(JdP ks).map λk=>Ja4 k ks rows
def Jb2(k:Jk):List Jk->List (List Value)->List Value
 | k'::ks,u::us=>if k'=k then u.tail else Jb2 k ks us
 | _,_=>List.replicate 12 (.bool false)
theorem RepLL.chunks{K:Ghost}:∀{rows:List (List AV)} {vr:List Value},RepLL K rows vr->∃ us:List (List Value),vr=us.flatten/\us.length=rows.length/\∀(i:Nat) (r:List AV) (u:List Value),rows[i]? = some r->us[i]? = some u->RepL K r u
 | [],vr,h=>by simp only[RepLL]at h;subst h;exact⟨[],rfl,rfl,λi r u h=>ED⟩
 | r::rs,vr,h=>by
  simp only[RepLL]at h;obtain⟨u,us,rfl,h1,h2⟩:=h;obtain⟨us',rfl,h4,h5⟩:=RepLL.chunks h2;refine⟨u::us',rfl,by simp[h4],λi r' u' hr hu=>?_⟩;cases i with
  | zero=>simp only[Am,V]at hr hu;subst hr hu;exact h1
  | succ i=>simp only[BA]at hr hu;exact h5 i r' u' hr hu
theorem Jjg:∀{rows:List (List AV)} {ks:List Jk},Ja3 rows=some ks->ks.length=rows.length
 | [],ks,h=>by simp only[Ja3,V]at h;subst h;rfl
 | r::rs,ks,h=>by
  unfold Ja3 at h;split at h
  ·rename_i heq;cases heq
  ·rename_i heq;simp only[DN]at heq;obtain⟨-,rfl⟩:=heq;split at h
   ·rename_i l hl;simp only[V]at h;subst h;simp[Jjg hl]
   ·simp at h
  ·simp at h
theorem Jjh:∀{rows:List (List AV)} {ks:List Jk},Ja3 rows=some ks->∀(i:Nat) (k:Jk) (r:List AV),ks[i]? = some k->rows[i]? = some r->∃ r',r=AV.str k::r'
 | [],ks,h,i,k,r,hk,hr=>by simp at hr
 | r0::rs,ks,h,i,k,r,hk,hr=>by
  unfold Ja3 at h;split at h
  ·rename_i heq;cases heq
  ·rename_i k0 r0' rs' heq;simp only[DN]at heq;obtain⟨rfl,rfl⟩:=heq;split at h
   ·rename_i l hl;simp only[V]at h;subst h;cases i with
    | zero=>simp only[Am,V]at hk hr;subst hk hr;exact⟨_,rfl⟩
    | succ i=>simp only[BA]at hk hr;exact Jjh hl i k r hk hr
   ·simp at h
  ·simp at h
theorem Jeh{k:Jk}:∀{ks:List Jk} {rows:List (List AV)} {i:Nat} {r:List AV},ks.Nodup->ks[i]? = some k->rows[i]? = some r->Ja4 k ks rows=r
 | [],rows,i,r,_,h,_=>ED
 | k'::ks,[],i,r,_,_,h=>ED
 | k'::ks,r'::rows,i,r,hn,hk,hr=>by
  rw[B6]at hn;unfold Ja4;cases i with
  | zero=>simp only[Am,V]at hk hr;rw[if_pos hk,hr]
  | succ i=>simp only[BA]at hk hr;rw[if_neg (λe:k'=k=>hn.1 (by rw[e];exact Aq hk))];exact Jeh hn.2 hk hr
theorem Jji{k:Jk}:∀{ks:List Jk} {us:List (List Value)} {i:Nat} {u:List Value},ks.Nodup->ks[i]? = some k->us[i]? = some u->Jb2 k ks us=u.tail
 | [],us,i,u,_,h,_=>ED
 | k'::ks,[],i,u,_,_,h=>ED
 | k'::ks,u'::us,i,u,hn,hk,hr=>by
  rw[B6]at hn;unfold Jb2;cases i with
  | zero=>simp only[Am,V]at hk hr;rw[if_pos hk,hr]
  | succ i=>simp only[BA]at hk hr;rw[if_neg (λe:k'=k=>hn.1 (by rw[e];exact Aq hk))];exact Jji hn.2 hk hr
theorem Jb3(k:Jk):∀(ks:List Jk) (us:List (List Value)),(∃ u∈us,Jb2 k ks us=u.tail)\/Jb2 k ks us=List.replicate 12 (.bool false)
 | [],us=>.inr (by unfold Jb2;rfl)
 | k'::ks,[]=>.inr (by unfold Jb2;rfl)
 | k'::ks,u::us=>by
  unfold Jb2;split
  ·exact .inl ⟨u,Bl,rfl⟩
  ·rcases Jb3 k ks us with⟨x,hx,h⟩ |h
   ·exact .inl ⟨x,A7 _ hx,h⟩
   ·exact .inr h
theorem Jjj(enc:List UInt8->List Value)(henc:∀ k,(enc k).length=13):∀(l:List (List UInt8)) (t:Nat),t<l.length*13->(l.map enc).flatten[t]? = some ((enc (l.toArray[t / 13]!))[t % 13]!)
 | [],t,h=>ED
 | x::l,t,h=>by
  simp only[Ap,BF];by_cases ht:t<13
  ·have h0:t / 13=0:=Nat.div_eq_of_lt ht;have h1:t % 13=t:=Nat.mod_eq_of_lt ht;rw[AZ (by rw[henc];exact ht),h0,h1];have h2:(x::l).toArray[0]! = x:=Ag;rw[h2,getElem!_pos (enc x) t (by rw[henc];exact ht),Ab (by rw[henc];exact ht)]
  ·have ih:=Jjj enc henc l (t-13) (by simp only[Ad]at h;omega);rw[B9 (by rw[henc];omega),henc,ih];have h0:t / 13=(t-13) / 13+1:=O;have h1:t % 13=(t-13) % 13:=O;rw[h0,h1];have h2:(x::l).toArray[(t-13) / 13+1]! = l.toArray[(t-13) / 13]!:=Ag;rw[h2]
theorem Jei(enc:List UInt8->List Value)(henc:∀ k,(enc k).length=13)(l:List (List UInt8)):(l.map enc).flatten.length=l.length*13:=by
 induction l with
 | nil=>rfl
 | cons x l ih=>simp only[Ap,BF,AG,ih,henc,Ad];omega
theorem Jjk(enc:List UInt8->List Value)(henc:∀ k,(enc k).length=13)(l:List (List UInt8)):(flatK enc 13 l.toArray).toList=(l.map enc).flatten:=by
 apply Cm;intro t;by_cases ht:t<l.length*13
 ·rw[Jjj enc henc l t ht];simp only[flatK,Dd,Ax,Array.toList_range,BZ,Dr ht,A9]
 ·rw[A5 (by simp[flatK];omega),A5 (by rw[Jei enc henc];omega)]
open Classical in
def exU(cl:Ky)(c:IC)(e:KC)(S:St):Option (Ex×KC×St):=
 if h:∃ r n,Qr S.heap.length cl n c e S=some r then some (Classical.choose h)else none
theorem Jn9{cl:Ky}{c:IC}{e:KC}{S:St}{r:Ex×KC×St}(h:exU cl c e S=some r):∃ n,Qr S.heap.length cl n c e S=some r:=by
 unfold exU at h;split at h
 ·rename_i hx;simp only[V]at h;subst h;exact BB hx
 ·simp at h
theorem Jva{cl cl':Ky}(hc:CLe cl cl'){c:IC}{e:KC}{S:St}{n:Nat}{r:Ex×KC×St}(h:Qr S.heap.length cl n c e S=some r):exU cl' c e S=some r:=by
 have h1:∃ r n,Qr S.heap.length cl' n c e S=some r:=⟨r,n,Q6 hc (Ao n) c e S _ h⟩
 unfold exU;rw[dif_pos h1];obtain⟨m,hm⟩:=BB h1;have e1:=Q6 hc (B5 n m) c e S _ h;have e2:=Q6 (λ_ _ _ _ h=>h) (B7 n m) c e S _ hm;rw[e1]at e2;exact e2.symm
theorem Jvb{cl cl':Ky}(hc:CLe cl cl')(c:IC)(e:KC)(S:St):Le (exU cl c e S) (exU cl' c e S):=λr h=>by obtain⟨n,hn⟩:=Jn9 h;exact Jva hc hn
end Go.Proofs.YtmeakjgbjldkdaaGreat.Ai
namespace Go.Proofs.YtmeakjgbjldkdaaGreat.Once
open Go
end Go.Proofs.YtmeakjgbjldkdaaGreat.Once
namespace Go.Proofs.YtmeakjgbjldkdaaGreat.Ai
open Go
open Tr(pk)
open Go Go.Sort Go.Proofs.YtmeakjgbjldkdaaGreat.Slo
def Jrl(m:Nat)(cs:List AV):Bool:=cs.all λx=>J7 x || match x with
 | .map k=>k == m
 | _=>false
theorem JpM{m:Nat}{cs:List AV}(h:Jrl m cs=true):∀ x∈cs,J7 x=true\/x=.map m:=by
 intro x hx;have:=Bo.1 h x hx;rw[Bp]at this;refine this.imp id λh=>?_;cases x <;> simp at h
 rw[h]
open Classical in
def Jfk(S:St)(m:Nat)(es:List (Jk×AV)):AV->St->Option (Res×St)
 | .list 13 (.row b _) rows,S1=>match Ja3 rows with
  | some ks=>if S.rows.length<b/\ks.Nodup/\XF Zn rows=true/\S1.heap[m]? = some (.map es)/\rows.length<=1000000000/\rows≠[] then some (.ret (.list 13 .dead (Jbs ks rows)),⟨S.heap,S1.rows⟩)else none
  | none=>none
 | .list 0 .full [],S1=>if S1.heap[m]? = some (.map es)then some (.ret (.list 0 .full []),⟨S.heap,S1.rows⟩)else none
 | _,_=>none
def Jg2:Ky->List AV->St->Option (Res×St):=λcl vs S=>match vs with
 | [.ptr n 0,.str s]=>match S.heap[n]? with
  | some (.cells cs)=>match (cs[1]?:Option AV)with
   | some (.map m)=>match S.heap[m]? with
    | some (.map es)=>if Jg0 es=true/\Jrl m cs=true then
      match exU cl JnY (Ys [.ref cs,.str s]) ⟨S.heap,S.rows++[0]⟩with
      | some (.normal,e1,S1)=>match Jj e1 5 with
       | some v=>Jfk S m es v S1
       | none=>none
      | _=>none
     else none
    | _=>none
   | _=>none
  | _=>none
 | _=>none
theorem Jjl:JeN Jg2:=by
 intro c c' hc vs S a h;unfold Jg2 at h |-;split at h
 ·rename_i n s;split at h
  ·rename_i cs hcs;split at h
   ·rename_i m hm;split at h
    ·rename_i es hes;split at h
     ·rename_i hif;simp only[if_pos hif];split at h
      ·rename_i e1 S1 hx;rw[Jvb hc _ _ _ _ hx];exact h
      ·simp at h
     ·simp at h
    ·simp at h
   ·simp at h
  ·simp at h
 ·simp at h
def Jvc:IC:=.seq JD9 (.block 0 (.loop [0,5,13,14,15] (.seq JEa (.seq (.cond (.tmp 16) (.skip) (.exit 0)) (.seq (.block 1 (.seq JEb (.seq JEc (.block 2 (.loop [0,5,7,13,14,15,26,27,28] (.seq JEd (.seq (.cond (.tmp 29) (.skip) (.exit 2)) (.seq (.block 3 (.seq JEe (.seq JEf (.seq JEg (.cond (.tmp 40) JuR (.skip)))))) JuS)))))))) JuT)))))
theorem Jvd:JnY=.seq JuP (.seq JuQ Jvc):=rfl
theorem J0j:Yn Tryz.prog 60 JuP a37=true:=by unfold a37;kernel_rfl
theorem J0k:Yn Tryz.prog 60 JuQ b37=true:=by unfold b37;kernel_rfl
theorem J0l:Yn Tryz.prog 60 Jvc Ju7=true:=by unfold Ju7;kernel_rfl
theorem JBK(us:Array Value)(w:World):(callFunc 37 us).run Tryz.prog w=.ok (.enter 37 us) w:=by
 have hf:=Tryz.func37;have hb:Tryz.f37.body.isSome=true:=Ae;have h2:(Tryz.f37.name != "runtime.NumGoroutine")=true:=Ae;obtain⟨c,hc⟩:=BQ.1 hb;have h3:¬Tryz.f37.name = "runtime.NumGoroutine":=Fo
 simp[callFunc,hf,h3,hc]
theorem Jve{cl:Ky}(hcl:VF Tryz.prog cl){n:Nat}{K:Ghost}{S S':St}{w:World}{a:Act}{e e':KC}{Q:Exit->Act->World->Prop}(R:Rel K S w)(hI:VL S.heap.length S)(E:EnvRep K (Jj e) a.tmps)(hnt:60<=a.tmps.size)
  (hx:Qr S.heap.length cl n JnY e S=some (.normal,e',S'))
  (hQ:∀ a' w' K',Rel K' S' w'->EnvRep K' (Jj e') a'.tmps->a'.defers=a.defers->a'.tmps.size=a.tmps.size->Step K (λn=>n<S.heap.length) w K' w'->Jf5.wp Tryz.prog Q a' w') :
  (Code.seq a37 (.seq b37 (.seq Ju7 Jf5))).wp Tryz.prog Q a w:=by
 rw[Jvd]at hx;obtain⟨ea,Sa,hxa,hx⟩:=Jfj hx;obtain⟨eb,Sb,hxb,hxc⟩:=Jfj hx;refine wp_seq (Jf7 hcl J0j R hI E hnt (Ao _) hxa ?_);intro aa wa Ka Ra Ea hda hsa hsta hka;refine wp_seq (Jf7 hcl J0k Ra (hka.2.2 hI) Ea O hka.1 hxb ?_);intro ab wb Kb Rb Eb hdb hsb hstb hkb;refine wp_seq (Jf7 hcl J0l Rb (hkb.2.2 (hka.2.2 hI)) Eb O (BX hka.1 hkb.1) hxc ?_);intro ac wc Kc Rc Ec hdc hsc hstc hkc;exact hQ ac wc Kc Rc Ec (hdc.trans (hdb.trans hda)) (hsc.trans (hsb.trans hsa)) ((hsta.trans hstb (λm hm=>Bh hm hka.1)).trans hstc (λm hm=>Bh hm (BX hka.1 hkb.1)))
theorem JpN{α:Type}[Inhabited α]{enc:α->Value}{w:World}{br off:Nat}{d:Array α}{us:Array Value}{t:TypeId}(h:w.heap[br]? = some (.cells us t (0,0))):(putRow enc w br off d).heap[br]? = some (.cells (putCells enc off d us) t (0,0)):=by simp[putRow,mapBlock,CF,h,onCells]
theorem JpO{α:Type}[Inhabited α]{enc:α->Value}{w:World}{br off k:Nat}{d:Array α}(h:k≠br):(putRow enc w br off d).heap[k]? = w.heap[k]?:=by simp only[putRow,mapBlock,CF];rw[if_neg (Ne.symm h)]
theorem Jjm{bad:Nat->Bool}:∀{rows:List (List AV)},XF bad rows=true->∀ r∈rows,Xk bad r=true
 | [],_,r,hr=>by cases hr
 | x::xs,h,r,hr=>by
  simp only[XF,Ah]at h;rcases AS.1 hr with rfl |hr
  ·exact h.1
  ·exact Jjm h.2 r hr
theorem Joa:ZL Tryz.prog 37 Jg2:=by
 intro cl hcl vs S r S' hp K w us R hI ha;unfold Jg2 at hp;split at hp
 case h_2=>simp at hp
 rename_i n s;simp only at hp;split at hp
 case h_2=>simp at hp
 rename_i cs hcs;split at hp
 case h_2=>simp at hp
 rename_i m hcm;split at hp
 case h_2=>simp at hp
 rename_i es hes;split at hp
 case isFalse=>simp at hp
 rename_i hif;obtain⟨hint,htab⟩:=hif;split at hp
 case h_2=>simp at hp
 rename_i e1 S1 hex;split at hp
 case h_2=>simp at hp
 rename_i v hv5;obtain⟨nf,hex⟩:=Jn9 hex;refine .inl ⟨JBK _ _,?_⟩;simp only[RepT]at ha;obtain⟨u0,us1,rfl,hu0,u1,us2,rfl,hu1,rfl⟩:=ha;simp only[Rep]at hu0;obtain⟨B0,hB0,rfl⟩:=hu0;obtain⟨vs0,t0,hw0,hrep0⟩:=R.cells n B0 cs hB0 hcs;obtain⟨um,-,-,hum⟩:=hrep0.get 1 _ hcm;simp only[Rep]at hum;obtain⟨Bm,hBm,-⟩:=hum;obtain⟨vs,t,e1',e2,Ro⟩:=JBF R hB0 hcs hBm hes hint;rw[hw0]at e1';simp only[V,Obj.cells.injEq,and_true]at e1';obtain⟨rfl,rfl⟩:=e1';have hRef:=JBG (b:=S.rows.length) R hB0 hBm (JpM htab) e2;have hargs:RepT (X8 K B0 vs0.toList m Bm S.rows.length) [.ref cs,.str s] [.pointer (some ⟨B0,0,none⟩),u1]:=by simp only[RepT];refine⟨_,_,rfl,hRef,_,_,rfl,?_,rfl⟩;simpa only[Rep] using hu1
 have hE:=Jis hargs 60;refine calls_of_wp Tryz.func37 JNY ?_;rw[Tryz.ntmps37];refine Jve hcl (S:=⟨S.heap,S.rows++[0]⟩) Ro hI hE Ag hex ?_;intro a1 w1 K1 R1 E1 hdf hsz hst;have hsz60:a1.tmps.size=60:=by rw[hsz];simp
 obtain⟨-,hr5⟩:=E1 5 v hv5;unfold Jfk at hp;split at hp
 ·
  rename_i b en rows;split at hp
  case h_2=>simp at hp
  rename_i ks hks;split at hp
  case isFalse=>simp at hp
  rename_i hc;obtain⟨c1,c2,c3,c4,c5,c6⟩:=hc;simp only[V,AP]at hp;obtain⟨rfl,rfl⟩:=hp;obtain⟨Rb,Rm,hstm,hnst⟩:=Jrk R hB0 hcs hBm hes hint hw0 e2 hst R1 c4;simp only[Rep]at hr5;obtain⟨base,cap,hsv,hcap,hrs,hrow⟩:=hr5;have hkl:=Jjg hks;rcases hrow with⟨-,h0,-⟩ |⟨Br,o,vr,rfl,hfix,hrl,ht⟩
  ·exact absurd h0 c6
  obtain⟨⟨x,hxa,hxb⟩,-⟩:=ht.2;have hx13:=ht.1 x hxa;have hnew:w.heap.size<=Br:=by
   rcases hst.born Br x hxa with⟨⟨b',E,sz,size⟩,hy⟩ |h
   ·exfalso;obtain⟨E',h1,-⟩:=hst.ext.a Br b' E sz size hy;rw[hxa]at h1;simp only[V]at h1;subst h1;simp only at hxb;subst hxb;simp only[X8]at hy;split at hy
    ·simp only[V,AP]at hy;omega
    ·obtain⟨_,-,-,r0,hr0,-⟩:=R.grow Br b' E sz size hy;have:=(Ac.1 hr0).1;omega
   ·exact h
  obtain⟨lr,hgr,hlr⟩:=hfix;obtain⟨ur,tr,hur,hurl⟩:=R1.rows Br lr hgr;have hne0:Br≠B0:=λe=>by have:=(AQ.1 hw0).1;omega
  obtain⟨us,rfl,husl,husr⟩:=RepLL.chunks hrl;have hrlen:∀(i:Nat) (u:List Value),us[i]? = some u->u.length=13:=λi u hu=>by
   have hi:=(Ac.1 hu).1;obtain⟨r,hr⟩:∃ r,rows[i]? = some r:=⟨_,Ab O⟩
   rw[(husr i r u hr hu).length];exact(hrs r (Aq hr)).1
  have hone:∀(i:Nat) (u:List Value),us[i]? = some u->∀ v∈u,v.oneCell'=true:=λi u hu=>by
   have hi:=(Ac.1 hu).1;obtain⟨r,hr⟩:∃ r,rows[i]? = some r:=⟨_,Ab O⟩
   exact(husr i r u hr hu).oneCell
  obtain⟨rest,hrest⟩:∃ rest:List UInt8->List Value,rest=λk=>Jb2 k ks us:=⟨_,rfl⟩
  have h12:∀ k,(rest k).length=12:=λk=>by
   rw[hrest];rcases Jb3 k ks us with⟨u,hu,h⟩ |h
   ·obtain⟨i,hi⟩:=Cd hu;simp only[h,List.length_tail,hrlen i u hi]
   ·simp only[h,List.length_replicate]
  have h1c:∀ k,∀ v∈rest k,v.oneCell'=true:=λk v hv=>by
   rw[hrest]at hv;rcases Jb3 k ks us with⟨u,hu,h⟩ |h
   ·obtain⟨i,hi⟩:=Cd hu;simp only[h]at hv;exact hone i u hi v (List.mem_of_mem_tail hv)
   ·simp only[h]at hv;rw[List.eq_of_mem_replicate hv];rfl
  have henc:∀ k,(Zd rest k).length=13:=λk=>by simp[Zd,h12]
  have hkey:∀(i:Nat) (k:Jk),ks[i]? = some k->∃ u,us[i]? = some u/\Zd rest k=u/\RepL K1 (Ja4 k ks rows) u/\Ja4 k ks rows∈rows:=λi k hk=>by
   have hi:=(Ac.1 hk).1;obtain⟨r,hr⟩:∃ r,rows[i]? = some r:=⟨_,Ab O⟩
   obtain⟨u,hu⟩:∃ u,us[i]? = some u:=⟨_,Ab O⟩
   obtain⟨r',rfl⟩:=Jjh hks i k r hk hr;have hrr:=husr i _ u hr hu;refine⟨u,hu,?_,by rw[Jeh c2 hk hr];exact hrr,by rw[Jeh c2 hk hr];exact Aq hr⟩;simp only[RepL]at hrr;obtain⟨x0,xs,rfl,-,hx0,-⟩:=hrr;simp only[Rep]at hx0;subst hx0;unfold Zd;rw[hrest];simp only[Jji c2 hk hu,List.tail_cons]
  have hmap:ks.map (Zd rest)=us:=by
   apply Cm;intro i;rw[Ax];cases hk:ks[i]? with
   | none=>rw[A5 (by have:=BJ.1 hk;omega)];rfl
   | some k=>obtain⟨u,hu,he,-⟩:=hkey i k hk;rw[hu,A9,he]
  have hflat:(flatK (Zd rest) 13 ks.toArray).toList=us.flatten:=by rw[Jjk _ henc,hmap]
  have hfl:us.flatten.length=ks.length*13:=by rw[<- hmap];exact Jei _ henc ks
  have hH:HoldsK (Zd rest) 13 w1 Br o ks.toArray:=by
   intro j hj;rw[size_flatK]at hj;simp only[BZ]at hj;refine⟨?_,Jda hur _⟩;rw[Y5 hur];have h1:(flatK (Zd rest) 13 ks.toArray)[j]! = us.flatten[j]!:=by rw[<- hflat,getElem!_pos _ j (by rw[size_flatK,BZ];exact hj),getElem!_pos _ j (by rw[Bu,size_flatK,BZ];exact hj),Array.getElem_toList]
   have h2:us.flatten[j]? = lr[o+j]?:=by
    have:((lr.drop o).take us.flatten.length)[j]? = us.flatten[j]?:=by rw[hlr]
    rw[Bi O,Dw]at this;exact this.symm
   have h3:ur[o+j]? = lr[o+j]?:=by
    have hlt:o+j<lr.length:=by refine Nat.lt_of_not_le λhle=>?_;rw[A5 hle,BJ]at h2;omega
    have:(ur.toList.take lr.length)[o+j]? = lr[o+j]?:=by rw[hurl]
    rw[Bi hlt]at this;simpa using this
   show ur[o+j]? = some ((flatK (Zd rest) 13 ks.toArray)[j]!);rw[h1,h3,<- h2,getElem!_pos us.flatten j O,Ab O]
  have hcall:=JNW rest h12 h1c Br o cap ks.toArray w1 hH (AQ.1 hur).1 (by simp only[BZ];omega);simp only[BZ,hkl]at hcall;refine JkN _ _ _ a1 w1 hsz60 hdf hsv hcall ?_;rintro a' w' hda ha60 ha4 ⟨nd,os,rfl⟩;obtain⟨so,hso⟩:∃ so,so=JdP ks:=⟨_,rfl⟩
  rw[<- hso];have hsl:so.length=ks.length:=by rw[hso];exact JbY ks
  have hsm:∀ k∈so,k∈ks:=λk hk=>(Yj ks).mem_iff.1 (hso ▸ hk);have hbr:=(AQ.1 hur).1;have hw2:∀ k,k<w1.heap.size->(sortWorldK (Zd rest) 13 w1 Br o nd so.toArray os).heap[k]? =(putRow id (Sort.ahead w1 nd) Br o (flatK (Zd rest) 13 so.toArray)).heap[k]?:=λk hk=>DX (by simpa [putRowK] using hk);have hcur:(sortWorldK (Zd rest) 13 w1 Br o nd so.toArray os).heap[Br]? = some (.cells (putCells id o (flatK (Zd rest) 13 so.toArray) ur) tr (0,0)):=by rw[hw2 Br hbr];exact JpN hur
  have hoth:∀ B,B<w1.heap.size->B≠Br->(sortWorldK (Zd rest) 13 w1 Br o nd so.toArray os).heap[B]? = w1.heap[B]?:=λB hB hne=>by rw[hw2 B hB,JpO hne];rfl
  have hsize:w1.heap.size<=(sortWorldK (Zd rest) 13 w1 Br o nd so.toArray os).heap.size:=size_sortWorldK_c _ _ _ _ _ _ _ _;have hW1:(sortWorldK (Zd rest) 13 w1 Br o nd so.toArray os).os=w1.os:=rfl;have hW2:(sortWorldK (Zd rest) 13 w1 Br o nd so.toArray os).tape=w1.tape:=rfl;have hW3:(sortWorldK (Zd rest) 13 w1 Br o nd so.toArray os).output=w1.output:=rfl;generalize sortWorldK (Zd rest) 13 w1 Br o nd so.toArray os=w2 at hcur hoth hsize hW1 hW2 hW3 |-;obtain⟨l',hl'⟩:∃ l',l'=(putCells id o (flatK (Zd rest) 13 so.toArray) ur).toList.take (o+ks.length*13):=⟨_,rfl⟩
  have husz:o+ks.length*13<=ur.size:=by
   have e1:=congrArg List.length hlr;have e2:=congrArg List.length hurl;rw[A8,Ch,hfl]at e1;rw[A8]at e2;simp only[Bu]at e2;have h0:0<ks.length:=by rw[hkl];exact Cg.2 c6
   omega
  have hl'len:l'.length=o+ks.length*13:=by rw[hl',A8];simp[putCells];omega
  obtain⟨R2,hst2⟩:=JBI R Rb Rm (hstm λn=>n<S.heap.length) (Br:=Br) (lr:=lr) (l':=l') hnew (by simp only[Ja1];rw[if_neg hne0];exact hgr) rfl hW1 hW2 hW3 hsize hoth hcur (by rw[hl'len,hl']);have hnst2:Nst Zn K1 (Ja2 (Ja1 K K1 B0) Br l'):=JBJ hnst hxa (by rw[hx13];rfl);have hfix2:(Ja2 (Ja1 K K1 B0) Br l').fix Br o (so.map (Zd rest)).flatten:=by
   refine⟨l',by simp[Ja2],?_⟩;rw[Jei _ henc,hsl,<- Jjk _ henc];apply Cm;intro j;by_cases hj:j<ks.length*13
   ·rw[Bi hj,Dw,hl',Bi O];have hj2:j<(flatK (Zd rest) 13 so.toArray).size:=by rw[size_flatK,BZ,hsl];exact hj
    simp only[Array.getElem?_toList,putCells,Array.getElem?_mapIdx];rw[Db O,A9,if_pos ⟨O,O⟩,show o+j-o=j by omega,Db hj2,getElem!_pos _ j hj2];rfl
   ·rw[A5 EW,A5 (by simp only[Bu,size_flatK,BZ,hsl];omega)]
  have hrow:∀(l:List Jk),(∀ k∈l,k∈ks)->RepLL (Ja2 (Ja1 K K1 B0) Br l') (l.map λk=>Ja4 k ks rows) (l.map (Zd rest)).flatten:=by
   intro l;induction l with
   | nil=>intro _;simp[RepLL]
   | cons k l ih=>intro hl;simp only[Ap,BF,RepLL];refine⟨_,_,rfl,?_,ih (λk hk=>hl k (A7 _ hk))⟩;obtain⟨i,hi⟩:=Cd (hl k Bl);obtain⟨u,hu,he,hr,hmem⟩:=hkey i k hi;rw[he];exact RepL.nest hnst2 _ _ hr (Jjm c3 _ hmem)
  have hres:Rep (Ja2 (Ja1 K K1 B0) Br l') (.list 13 .dead (Jbs ks rows)) (a1.tmps.getD 5 Go.undef):=by rw[hsv];simp only[Rep,Jbs,<- hso];refine⟨some ⟨Br,o,none⟩,cap,by rw[Ak,hsl,hkl],by rw[Ak,hsl,hkl];exact hcap,λr hr=>?_,.inr ⟨Br,o,_,rfl,hfix2,hrow so hsm,λx hx=>by simp[Ja2]at hx,trivial⟩⟩;obtain⟨k,hk,rfl⟩:=Bw.1 hr;obtain⟨i,hi⟩:=Cd (hsm k hk);obtain⟨u,hu,he,-,hmem⟩:=hkey i k hi;exact hrs _ hmem
  have hE4:EnvRep (Ja2 (Ja1 K K1 B0) Br l') (Jj [(4,.list 13 .dead (Jbs ks rows))]) a'.tmps:=by
   intro t v hv;simp only[Jj]at hv;split at hv
   ·rename_i e;subst e;simp only[V]at hv;subst hv;refine⟨O,?_⟩;rw[ha4,<- hsv];exact hres
   ·cases hv
  obtain⟨u,hu,hr⟩:=JaQ (P:=Tryz.prog) (g:=Tryz.f37) (rs:=[.tmp 4]) R2 hE4 Ae rfl;exact⟨hda,u,hu,_,R2,hst2,⟨Ao _,λ_ _ h=>h,λh=>h⟩,u,rfl,hr⟩
 ·
  split at hp
  case isFalse=>simp at hp
  rename_i c4;simp only[V,AP]at hp;obtain⟨rfl,rfl⟩:=hp;obtain⟨Rb,Rm,hstm,hnst⟩:=Jrk R hB0 hcs hBm hes hint hw0 e2 hst R1 c4;have hres:=Rep.nest hnst _ _ hr5 rfl;simp only[Rep]at hr5;obtain⟨base,cap,hsv,-⟩:=hr5;refine JkN _ _ _ a1 w1 hsz60 hdf hsv (Jn4 base cap _ w1) ?_;rintro a' w' hda ha60 ha4 rfl;have hE4:EnvRep (Ja1 K K1 B0) (Jj [(4,.list 0 .full [])]) a'.tmps:=by
   intro t v hv;simp only[Jj]at hv;split at hv
   ·rename_i e;subst e;simp only[V]at hv;subst hv;refine⟨O,?_⟩;rw[ha4,<- hsv];exact hres
   ·cases hv
  obtain⟨u,hu,hr⟩:=JaQ (P:=Tryz.prog) (g:=Tryz.f37) (rs:=[.tmp 4]) Rm hE4 Ae rfl;exact⟨hda,u,hu,_,Rm,hstm _,⟨Ao _,λ_ _ h=>h,λh=>h⟩,u,rfl,hr⟩
 ·simp at hp
variable {pr:Jz} {F:Nat->Option IFn}
structure LibN(pr:Jz)(F:Nat->Option IFn):Prop extends LibM pr F where
 p37:pr 37=some Jg2
theorem Ja5{sz:Nat}{rows:List (List AV)}(h:Zn sz=false)(hr:XF Zn rows=true):Y1 Zn (Kp sz rows)=true:=by
 cases rows with
 | nil=>rfl
 | cons r rs=>simp only[Kp,Y1,h,Bool.not_false,BW];exact hr
theorem JpP(bad:Nat->Bool):∀(a b:List AV),Xk bad (a++b)=(Xk bad a && Xk bad b)
 | [],b=>by simp[Xk]
 | x::a,b=>by simp only[Aw,Xk,JpP bad a b,DV]
theorem JpQ{α:Type}(f:α->List AV)(h:∀ x,Xk Zn (f x)=true):∀ l:List α,XF Zn (l.map f)=true
 | []=>rfl
 | x::l=>by simp only[Ap,XF,h,JpQ f h l,A0]
mutual
theorem Jvf:∀ t:Ty,Xk Zn (Jl t)=true
 | .mk kind name null K5 pred at_=>by simp only[Jl,Xk,Y1,Ja5 (sz:=6) rfl (Jl6 K5),Ja5 (sz:=5) rfl (Jl7 pred),A0]
theorem Jl6:∀ ts:List Ty,XF Zn (Jo ts)=true
 | []=>by simp only[Jo,XF]
 | t::ts=>by simp only[Jo,XF,Jvf t,Jl6 ts,A0]
theorem J0m:∀ t:Xp,Xk Zn (Jb t)=true
 | .mk op name args ty at_=>by simp only[Jb,Xk,Y1,Ja5 (sz:=6) rfl (Jl6 ty),Ja5 (sz:=5) rfl (Jl7 args),A0]
theorem Jl7:∀ ts:List Xp,XF Zn (Ja ts)=true
 | []=>by simp only[Ja,XF]
 | t::ts=>by simp only[Ja,XF,J0m t,Jl7 ts,A0]
end
mutual
theorem J0n:∀ t:Sm,Xk Zn (Jp t)=true
 | .mk kind name ty exs body els at_=>by simp only[Jp,Xk,Y1,Ja5 (sz:=6) rfl (Jl6 ty),Ja5 (sz:=5) rfl (Jl7 exs),Ja5 (sz:=7) rfl (Jl8 body),Ja5 (sz:=7) rfl (Jl8 els),A0]
theorem Jl8:∀ ts:List Sm,XF Zn (Jg ts)=true
 | []=>by simp only[Jg,XF]
 | t::ts=>by simp only[Jg,XF,J0n t,Jl8 ts,A0]
end
theorem JN5(p:Par):Xk Zn (Jf p)=true:=by simp only[Jf,Xk,Y1,JpP,Jvf,A0]
theorem JN6(p:Mth):Xk Zn (Jm p)=true:=by simp only[Jm,Xk,Y1,JpP,Jvf,Ja5 (sz:=7) rfl (Jl8 _),Ja5 (sz:=8) rfl (JpQ Jf JN5 _),A0]
theorem JN7(s o:Jk)(p:Mth):Xk Zn (KK s o p)=true:=by simp only[KK,Xk,Y1,JN6,A0]
theorem JBL(l:List (Jk×Jk×Mth)):XF Zn (Ko l)=true:=JpQ (α:=Jk×Jk×Mth) (λx=>KK x.1 x.2.1 x.2.2) (λx=>JN7 x.1 x.2.1 x.2.2) l
theorem JkP:∀ l:List (Jk×Jk×Mth),Ja3 (Ko l)=some (Yw l)
 | []=>rfl
 | x::l=>by have ih:=JkP l;show Ja3 ((AV.str x.1::AV.str x.2.1::Jm x.2.2)::Ko l)=_;unfold Ja3;rw[ih];rfl
theorem Jg3{k:Jk}:∀{l:List (Jk×Jk×Mth)},k∈Yw l->Ja4 k (Yw l) (Ko l)=KK (Jbo k l).1 (Jbo k l).2.1 (Jbo k l).2.2
 | [],h=>EB
 | x::l,h=>by
  show Ja4 k (x.1::Yw l) (KK x.1 x.2.1 x.2.2::Ko l)=_;unfold Ja4 Jbo;split
  ·rfl
  ·rename_i hne;rcases AS.1 h with rfl |h
   ·exact absurd rfl hne
   ·exact Jg3 h
theorem JjW(l:List (Jk×Jk×Mth)):Jbs (Yw l) (Ko l)=Ko (JgV l):=by unfold Jbs JgV Ko;rw[DA];refine Dq λk hk=>?_;exact Jg3 ((Yj _).mem_iff.1 hk)
theorem Jjn:∀(k:Nat) (cs:List Cls),Jg0 (VJ k cs)=true
 | _,[]=>rfl
 | k,c::cs=>by have ih:=Jjn (k+1) cs;simp only[VJ,Jg0,B1,BW];exact ih
theorem Jg4(L:LibN pr F){H:List Blk}{rw:List Nat}{n mb z zb:Nat}{tg tb:Tag}{cs:List Cls}{U:List (List Nat)}{o1 o2 o3 sl:AV}(T:TabU H n mb cs z tg zb tb U o1 o2 o3 sl)(hfw:Few cs)(hcl:Kl [o1,o2,o3,sl]=true)(s:Jk) :
  ∃(v:AV) (rw':List Nat),IsL 13 v (Ko (V5 cs U s))/\Rx rw rw'/\Det pr F 37 [.ptr n 0,.str s] ⟨H,rw⟩ (.ret v) ⟨H,rw'⟩:=by
 have hm:=L.hm;suffices h:Wp pr F 37 [.ptr n 0,.str s] ⟨H,rw⟩ λr S'=>∃(v:AV) (rw':List Nat),IsL 13 v (Ko (V5 cs U s))/\Rx rw rw'/\r=.ret v/\S'=⟨H,rw'⟩ by obtain⟨r,S',hd,v,rw',h1,h2,rfl,rfl⟩:=h.det hm;exact⟨v,rw',h1,h2,hd⟩
 obtain⟨nf,x,e,S1,hx,rfl,v,rw1,M,he,hg,hR,rfl⟩:=JuY L.toLibM (rw:=rw++[0]) T hfw s;have htab:Jrl mb (Jl2 cs U z zb mb tg tb o1 o2 o3 sl)=true:=by simp only[Kl,CI,Ah]at hcl;simp only[Jl2,Jrl,B1,List.all_nil,J7,hcl.1,hcl.2.1,hcl.2.2.1,hcl.2.2.2,beq_self_eq_true,Bool.or_true,Df,A0]
 have hT2:=T.keep (X6 T.at_ M);have hmp:(hp H n (.cells (Jl2 cs U z zb mb tg tb o1 o2 o3 sl)) M)[mb]? = some (.map (VJ 0 cs)):=hT2.mp;have hkey:∀ res,Jfk ⟨H,rw⟩ mb (VJ 0 cs) v ⟨hp H n (.cells (Jl2 cs U z zb mb tg tb o1 o2 o3 sl)) M,rw1⟩=some res->QF pr F (nf+1) 37 [.ptr n 0,.str s] ⟨H,rw⟩=some res:=by intro res hres;simp only[QF,L.p37];unfold Jg2;have h1:H[n]? = some (.cells (Jl2 cs U z zb mb tg tb o1 o2 o3 sl)):=T.at_;have h2:((Jl2 cs U z zb mb tg tb o1 o2 o3 sl)[1]?:Option AV)=some (.map mb):=rfl;have h3:H[mb]? = some (.map (VJ 0 cs)):=T.mp;have h4:=Jva (S:=⟨H,rw++[0]⟩) (cl':=QF pr F nf) (λ_ _ _ _ h=>h) hx;simp only[h1,h2,h3,if_pos (And.intro (Jjn 0 cs) htab),h4,he];exact hres
 have hRr:Rx rw rw1:=((Rx.rfl).push 0).trans hR;have hlen:=JkF hfw T.ups s;have hfew:=T.few;rcases hg with⟨h0,rfl⟩ |⟨h0,r,rfl,h1,h2⟩
 ·have hz:V5 cs U s=[]:=by
   have:Jfe cs U s=[]:=by have:=congrArg List.length h0;rw[Vc]at this;exact Bz.1 this
   unfold V5;rw[this];rfl
  refine⟨nf+1,.ret (.list 0 .full []),⟨H,rw1⟩,hkey _ ?_,_,rw1,?_,hRr,rfl,rfl⟩
  ·simp only[Jfk,hmp,if_true]
  ·rw[hz];exact IsL.nil
 ·have hsz:(rw++[0]).length=rw.length+1:=by simp
  refine⟨nf+1,.ret (.list 13 .dead (Ko (V5 cs U s))),⟨H,rw1⟩,hkey _ ?_,_,rw1,IsL.lit ?_,hRr,rfl,rfl⟩
  ·simp only[Jfk,JkP];rw[if_pos ⟨O,JkE cs U s,JBL _,hmp,by rw[Vc];omega,h0⟩,JjW,V5]
  ·intro h;have:=congrArg List.length h;rw[Vc]at this;unfold V5 JgV at this;rw[Ak,JbY]at this;apply h0;apply Bz.1;rw[Vc];unfold Yw at this;rw[Ak]at this;exact this
section
variable {b0 base ix:Nat} {d:Option Nat} {g:Option (Nat×Bool)} {prev items:List Item} {kp:List Nat} {k:List Fr} {e:KC} {Q:Ex->KC->St->Prop} {S:St}
theorem JN8{zs:List AV}{JgF:List (Nat×Nat×Opd)}(h:In pr F b0 Q base prev (⟨ix,d,g,.q (.build zs JgF)⟩::items) kp k e S):In pr F b0 Q base prev (⟨ix,d,g,.q (.build zs JgF)⟩::items) kp k e S:=h
theorem Jrm{sz m:Nat}{tag:Tag}{rows:List (List AV)}{r:List AV}{ki:IntKind}{n:Int}{K:AV->Prop}(hn:n=(m:Nat))(hr:rows[m]? = some r)(h:K (.ref r)):IaAt sz (.list sz tag rows) (.int ki n) K:=JaZ hr hn h
end
theorem JQ{base:Nat}{H0:List Blk}{prev:List Item}{re:List Nat}{e:KC}{X:Prop}(hx:X)(h:J8 prev re e H0 base=true:=by first |with_reducible exact XQ |(repeat' first |with_reducible exact Jo8 |refine JlF rfl ?_ |(refine JfM ?_;first |refine JbJ rfl ?_ |refine JlG (rw:=[]) rfl rfl rfl ?_ ?_) |(refine Jd8 ?_;refine JfL Aa rfl Cs Bq rfl ?_) |(refine JlH ?_;first |refine JbJ rfl ?_ |refine JfK (rw:=[]) rfl rfl rfl rfl ?_ ?_) |refine JbJ rfl ?_ |refine Jdi rfl rfl rfl ?_ |(refine Jd0 rfl ?_)      |(refine JbG ?_;first |refine zlr ?_ |refine zls ?_)      |(refine JbI ?_;first |refine zlo ?_ |refine Jo9 ?_ |refine Jpa ?_ |refine zlx ?_)      |(refine JaA ?_;first |refine Jnf ?_ |refine Jpq ?_ |refine Juq ?_)      |(refine Jd7 ?_;refine Jpb ?_)      |(refine Jax ?_;first |refine Jpc ?_ |refine Jpp ?_)      |(refine JaE ?_;(first |refine Jai ?_ JiM |refine Jai ?_ JiN |refine Jai ?_ JiO |refine Jai ?_ JiP)) |(refine JbH ?_;first |refine Jpd ?_ |refine Jpr ?_ |refine Jup ?_) |rfl)):J8 prev re e H0 base=true/\X:=⟨h,hx⟩
def JkQ:Res->St->Prop:=λr _=>r=.ret (.bool true)
theorem JcZ{t n0:Nat}{e:KC}{S':St}(he:Jj e t=some (.bool true)):fin [.tmp t] n0 JkQ .ret e S':=by simp only[fin,QT,he,X2,Y4,Ai.below,if_true,JkQ]
theorem JM{Q:Prop}(h:Q:=by(repeat' (first |(refine Jm3 ?_;first  |(refine Jlw ?_;first |refine Jqp rfl rfl ?_ |refine VN rfl ?_)  |(refine Jlx ?_;first    |(refine Jqq rfl rfl rfl ?_;first      |(refine Jd1 .add ?_;first |refine Jqt BP ?_ |refine Jqs rfl ?_)      |(refine JgE .add ?_;first |refine YX rfl (JbE O O) ?_ |refine YX rfl rfl ?_)      |(refine JgE .sub ?_;first |refine YX rfl (JbE O O) ?_ |refine YX rfl rfl ?_)      |(refine Jd1 .eql ?_;first |refine Jux Aj ?_ |refine Juy Aj ?_) |refine Jls rfl EK ?_      |refine Jho rfl EL ?_      |(refine Jqr rfl (λhq=>?_) (λhq=>?_) <;>(try simp only[decide_eq_true_eq,decide_eq_false_iff_not,beq_iff_eq,beq_eq_false_iff_ne,bne_iff_ne,ne_eq,bne_eq_false_iff_eq,Bb,DT,DU,Dc,Ak]at hq))      |refine YX rfl rfl ?_)    |refine VN rfl ?_)  |(refine YL ?_;first    |(refine XP rfl rfl ?_;first      |(refine Jd0 rfl ?_)      |(refine JbG ?_;first |refine zlr ?_ |refine zls ?_)      |(refine JbI ?_;first |refine zlo ?_ |refine Jo9 ?_ |refine Jpa ?_ |refine zlx ?_)      |(refine JaA ?_;first |refine Jnf ?_ |refine Jpq ?_ |refine Juq ?_)      |(refine Jd7 ?_;refine Jpb ?_)      |(refine Jax ?_;first |refine Jpc ?_ |refine Jpp ?_)      |(refine JaE ?_;(first |refine Jai ?_ JiM |refine Jai ?_ JiN |refine Jai ?_ JiO |refine Jai ?_ JiP)) |(refine JbH ?_;first |refine Jpd ?_ |refine Jpr ?_ |refine Jup ?_))    |refine VN rfl ?_)  |(refine Jbh ?_;refine zaa ?_)  |(refine Jly ?_;first    |(refine Jkj rfl rfl rfl ?_;first      |(refine JqU O O ?_;intro tk htk htk2)      |refine Jrm B8 Aa ?_ |refine JaZ Aa O ?_      |refine JaZ rfl rfl ?_      |refine Jkk O O ?_)    |refine VN rfl ?_)  |(refine Jqu ?_;first    |refine JcC rfl rfl rfl B8 Aa ?_    |refine Jdf Aa rfl rfl rfl O ?_    |refine VN rfl ?_)  |(refine Qp ?_;first    |(refine Q1 rfl rfl ?_;first      |(refine Jlu ?_;first |refine ze1 ?_ |refine JfJ rfl ?_)      |(refine Jlv ?_;first |refine ze2 ?_ |refine JfJ rfl ?_)      |refine JfJ rfl ?_)    |refine VN rfl ?_)  |(refine Jlz ?_;first    |refine Jiy rfl rfl rfl rfl BH rfl ?_    |refine VN rfl ?_)  |(refine JlQ ?_;refine Je4 rfl rfl ?_)  |(refine Jun ?_;refine Jaw rfl rfl rfl ?_;first |(refine JKU Aa (λkq kc hkq hkc hkr hkl=>?_) (λhkq=>?_)) |(refine Juo Aa ?_)) |(refine JwU ?_;first |refine g_q rfl rfl ?_ |refine VN rfl ?_)  |(refine Vh ?_;first    |(refine VG rfl rfl rfl ?_;first      |(refine Jaz 0 ?_;refine s_n hlt (Ao _) rfl EM EM ?_;refine JQ ?_) |(refine Jaz (0+1) ?_;refine Jyi hlt Aa O ?_;intro rc _ _ _ _ _ _;refine JQ ?_)      |(refine Jaz (0+3) ?_;refine JhB hlt Aa O ?_;intro rc _ _ _ _ _ _;refine JQ ?_)      |(refine JcI ?_;first        |(refine JeX ?_;first          |(refine zsR ?_;refine JQ ?_)          |(refine zsA ?_;refine JQ ?_)) |(refine JeS ?_;refine zsT ?_;refine JQ ?_)        |(refine zsO ?_;refine JQ ?_)))    |refine Yo rfl Bt ?_)  |(refine Jpv ?_;refine Jnr hlt rfl rfl rfl BC BL ?_;refine JQ ?_) |(refine Jhp ?_;first    |(refine Je rfl rfl rfl ?_;first      |(refine Ye 56 ?_;(first |refine⟨_,_,Yp L _ _ _ _,?_⟩ |refine⟨_,_,Yp L.toLibD _ _ _ _,?_⟩);refine JQ ?_) |(refine Z1 90 (.int .i64 0) ?_;(refine Jcb (cis0 _) hlt Aa ?_ ?_ <;> intro hP <;> obtain⟨_,_⟩:=hP <;> refine JQ ?_)) |(refine Z1 90 (.int .i64 1) ?_;(refine Jcb (cis1 _) hlt Aa ?_ ?_ <;> intro hP <;> obtain⟨_,_⟩:=hP <;> refine JQ ?_)) |(refine Z1 90 (.int .i64 2) ?_;(refine Jcb (cis2 _) hlt Aa ?_ ?_ <;> intro hP <;> obtain⟨_,_⟩:=hP <;> refine JQ ?_))      |(refine Ye 134 ?_;refine Jhc cpl hlt Aa ?_;intro _ _;refine JQ ?_)      |(refine Ye 136 ?_;(refine JgL (ctk _) hlt Aa O O ?_ ?_ <;> intro rc rwc hR' _ _ _ _ _ _ hP <;> replace hR:=hR.trans hR' <;>(try replace hRL:=hRL.trans hR') <;> obtain⟨_,_⟩:=hP <;> refine JQ ?_)) |(refine Ye 140 ?_;(refine JgL (cen) hlt Aa O O ?_ ?_ <;> intro rc rwc hR' _ _ _ _ _ _ hP <;> replace hR:=hR.trans hR' <;>(try replace hRL:=hRL.trans hR') <;> obtain⟨_,_⟩:=hP <;> refine JQ ?_)) |(refine Ye 93 ?_;(refine KU (cnd _) hlt Aa O O ?_;intro _ rc rwc hR' _ _ _ _ _ _ hP;replace hR:=hR.trans hR';(try replace hRL:=hRL.trans hR');obtain⟨_,_⟩:=hP;refine JQ ?_)) |(refine Ye 95 ?_;(refine KU (cfl) hlt Aa O O ?_;intro _ rc rwc hR' _ _ _ _ _ _ hP;replace hR:=hR.trans hR';(try replace hRL:=hRL.trans hR');obtain⟨_,_⟩:=hP;refine JQ ?_))      |(refine JAG Aa (JlR hlt) ?_;intro rwt hRt;replace hR:=hR.trans hRt;refine JQ ?_) |(refine Ks Ed ?_;refine JQ ?_))    |refine Yo rfl Bt ?_)  |(refine JwV ?_;refine Yo rfl Bt ?_)  |(refine JlA ?_;refine Jix AK ?_)) |(refine Jm4 ?_;first  |refine Kt hm ?_  |(refine Jdg ?_;first |refine zar hm ?_ |refine Xe hm (Ar _) rfl ?_)  |(refine Jhq ?_;first |refine Jde rfl ?_ |refine Jbe rfl ?_ |refine Jpu rfl (λhq=>?_) (λhq=>?_))  |refine Jcz ?_  |refine JeO ?_  |refine Jiw ?_  |refine JeP ?_) |(refine JeQ ?_;first  |refine Jbf ?_  |refine JcA ?_  |refine YE ?_  |refine Y8 ?_  |refine Yc ?_  |refine Yd ?_  |refine XV O ?_  |refine JcB ?_)));all_goals(refine ob ?_;apply_rules (newGoals:=.nonDependentOnly) only[bx];exact trivial)):Q:=h
theorem stJ{Q:Prop}(h:Q:=by(repeat' (first |(refine Jm3 ?_;(fail_if_success (refine JN8 ?_));first  |(refine Jlw ?_;first |refine Jqp rfl rfl ?_ |refine VN rfl ?_)  |(refine Jlx ?_;first    |(refine Jqq rfl rfl rfl ?_;first      |(refine Jd1 .add ?_;first |refine Jqt BP ?_ |refine Jqs rfl ?_)      |(refine JgE .add ?_;first |refine YX rfl (JbE O O) ?_ |refine YX rfl rfl ?_)      |(refine JgE .sub ?_;first |refine YX rfl (JbE O O) ?_ |refine YX rfl rfl ?_)      |(refine Jd1 .eql ?_;first |refine Jux Aj ?_ |refine Juy Aj ?_) |refine Jls rfl EK ?_      |refine Jho rfl EL ?_      |(refine Jqr rfl (λhq=>?_) (λhq=>?_) <;>(try simp only[decide_eq_true_eq,decide_eq_false_iff_not,beq_iff_eq,beq_eq_false_iff_ne,bne_iff_ne,ne_eq,bne_eq_false_iff_eq,Bb,DT,DU,Dc,Ak]at hq))      |refine YX rfl rfl ?_)    |refine VN rfl ?_)  |(refine YL ?_;first    |(refine XP rfl rfl ?_;first      |(refine Jd0 rfl ?_)      |(refine JbG ?_;first |refine zlr ?_ |refine zls ?_)      |(refine JbI ?_;first |refine zlo ?_ |refine Jo9 ?_ |refine Jpa ?_ |refine zlx ?_)      |(refine JaA ?_;first |refine Jnf ?_ |refine Jpq ?_ |refine Juq ?_)      |(refine Jd7 ?_;refine Jpb ?_)      |(refine Jax ?_;first |refine Jpc ?_ |refine Jpp ?_)      |(refine JaE ?_;(first |refine Jai ?_ JiM |refine Jai ?_ JiN |refine Jai ?_ JiO |refine Jai ?_ JiP)) |(refine JbH ?_;first |refine Jpd ?_ |refine Jpr ?_ |refine Jup ?_))    |refine VN rfl ?_)  |(refine Jbh ?_;refine zaa ?_)  |(refine Jly ?_;first    |(refine Jkj rfl rfl rfl ?_;first      |(refine JqU O O ?_;intro tk htk htk2)      |refine Jrm B8 Aa ?_ |refine JaZ Aa O ?_      |refine JaZ rfl rfl ?_      |refine Jkk O O ?_)    |refine VN rfl ?_)  |(refine Jqu ?_;first    |refine JcC rfl rfl rfl B8 Aa ?_    |refine Jdf Aa rfl rfl rfl O ?_    |refine VN rfl ?_)  |(refine Qp ?_;first    |(refine Q1 rfl rfl ?_;first      |(refine Jlu ?_;first |refine ze1 ?_ |refine JfJ rfl ?_)      |(refine Jlv ?_;first |refine ze2 ?_ |refine JfJ rfl ?_)      |refine JfJ rfl ?_)    |refine VN rfl ?_)  |(refine Jlz ?_;first    |refine Jiy rfl rfl rfl rfl BH rfl ?_    |refine VN rfl ?_)  |(refine JlQ ?_;refine Je4 rfl rfl ?_)  |(refine Jun ?_;refine Jaw rfl rfl rfl ?_;first |(refine JKU Aa (λkq kc hkq hkc hkr hkl=>?_) (λhkq=>?_)) |(refine Juo Aa ?_)) |(refine JwU ?_;first |refine g_q rfl rfl ?_ |refine VN rfl ?_)  |(refine Vh ?_;first    |(refine VG rfl rfl rfl ?_;first      |(refine Jaz 0 ?_;refine s_n hlt (Ao _) rfl EM EM ?_;refine JQ ?_) |(refine Jaz (0+1) ?_;refine Jyi hlt Aa O ?_;intro rc _ _ _ _ _ _;refine JQ ?_)      |(refine Jaz (0+3) ?_;refine JhB hlt Aa O ?_;intro rc _ _ _ _ _ _;refine JQ ?_)      |(refine JcI ?_;first        |(refine JeX ?_;first          |(refine zsR ?_;refine JQ ?_)          |(refine zsA ?_;refine JQ ?_)) |(refine JeS ?_;refine zsT ?_;refine JQ ?_)        |(refine zsO ?_;refine JQ ?_)))    |refine Yo rfl Bt ?_)  |(refine Jpv ?_;refine Jnr hlt rfl rfl rfl BC BL ?_;refine JQ ?_) |(refine Jhp ?_;first    |(refine Je rfl rfl rfl ?_;first      |(refine Ye 56 ?_;(first |refine⟨_,_,Yp L _ _ _ _,?_⟩ |refine⟨_,_,Yp L.toLibD _ _ _ _,?_⟩);refine JQ ?_) |(refine Z1 90 (.int .i64 0) ?_;(refine Jcb (cis0 _) hlt Aa ?_ ?_ <;> intro hP <;> obtain⟨_,_⟩:=hP <;> refine JQ ?_)) |(refine Z1 90 (.int .i64 1) ?_;(refine Jcb (cis1 _) hlt Aa ?_ ?_ <;> intro hP <;> obtain⟨_,_⟩:=hP <;> refine JQ ?_)) |(refine Z1 90 (.int .i64 2) ?_;(refine Jcb (cis2 _) hlt Aa ?_ ?_ <;> intro hP <;> obtain⟨_,_⟩:=hP <;> refine JQ ?_))      |(refine Ye 134 ?_;refine Jhc cpl hlt Aa ?_;intro _ _;refine JQ ?_)      |(refine Ye 136 ?_;(refine JgL (ctk _) hlt Aa O O ?_ ?_ <;> intro rc rwc hR' _ _ _ _ _ _ hP <;> replace hR:=hR.trans hR' <;>(try replace hRL:=hRL.trans hR') <;> obtain⟨_,_⟩:=hP <;> refine JQ ?_)) |(refine Ye 140 ?_;(refine JgL (cen) hlt Aa O O ?_ ?_ <;> intro rc rwc hR' _ _ _ _ _ _ hP <;> replace hR:=hR.trans hR' <;>(try replace hRL:=hRL.trans hR') <;> obtain⟨_,_⟩:=hP <;> refine JQ ?_)) |(refine Ye 93 ?_;(refine KU (cnd _) hlt Aa O O ?_;intro _ rc rwc hR' _ _ _ _ _ _ hP;replace hR:=hR.trans hR';(try replace hRL:=hRL.trans hR');obtain⟨_,_⟩:=hP;refine JQ ?_)) |(refine Ye 95 ?_;(refine KU (cfl) hlt Aa O O ?_;intro _ rc rwc hR' _ _ _ _ _ _ hP;replace hR:=hR.trans hR';(try replace hRL:=hRL.trans hR');obtain⟨_,_⟩:=hP;refine JQ ?_))      |(refine JAG Aa (JlR hlt) ?_;intro rwt hRt;replace hR:=hR.trans hRt;refine JQ ?_) |(refine Ks Ed ?_;refine JQ ?_))    |refine Yo rfl Bt ?_)  |(refine JwV ?_;refine Yo rfl Bt ?_)  |(refine JlA ?_;refine Jix AK ?_)) |(refine Jm4 ?_;first  |refine Kt hm ?_  |(refine Jdg ?_;first |refine zar hm ?_ |refine Xe hm (Ar _) rfl ?_)  |(refine Jhq ?_;first |refine Jde rfl ?_ |refine Jbe rfl ?_ |refine Jpu rfl (λhq=>?_) (λhq=>?_))  |refine Jcz ?_  |refine JeO ?_  |refine Jiw ?_  |refine JeP ?_) |(refine JeQ ?_;first  |refine Jbf ?_  |refine JcA ?_  |refine YE ?_  |refine Y8 ?_  |refine Yc ?_  |refine Yd ?_  |refine XV O ?_  |refine JcB ?_)));all_goals(refine ob ?_;apply_rules (newGoals:=.nonDependentOnly) only[bx];exact trivial)):Q:=h
theorem Jl9(a b:Jk)(m:Mth):Jh ((KK a b m).take 13)=KK a b m:=by rw[AB (De (Xu a b m).len),(Xu a b m).can]
theorem JjX(L:LibN pr F){H:List Blk}{rw:List Nat}{n mb z zb:Nat}{tg tb:Tag}{cs:List Cls}{U:List (List Nat)}{o1 o2 o3 sl:AV}(T:TabU H n mb cs z tg zb tb U o1 o2 o3 sl)(hfw:Few cs)(hcl:Kl [o1,o2,o3,sl]=true)(s nm:Jk) :
  ∃(v:AV) (rw':List Nat),IsL 13 v (Ko (ovM nm (V5 cs U s)))/\Rx rw rw'/\Det pr F 39 [.ptr n 0,.str s,.str nm] ⟨H,rw⟩ (.ret v) ⟨H,rw'⟩:=by
 have hm:=L.hm;suffices h:Wp pr F 39 [.ptr n 0,.str s,.str nm] ⟨H,rw⟩ λr S'=>∃(v:AV) (rw':List Nat),IsL 13 v (Ko (ovM nm (V5 cs U s)))/\Rx rw rw'/\r=.ret v/\S'=⟨H,rw'⟩ by obtain⟨r,S',hd,v,rw',h1,h2,rfl,rfl⟩:=h.det hm;exact⟨v,rw',h1,h2,hd⟩
 have hlt:n<H.length:=(Ac.1 T.at_).1;have hfew:=T.few;have hR:Rx rw rw:=Rx.rfl;refine Kw hm L.f39.1 L.f39.2 rfl (Xi T.at_) ?_;refine' JM;obtain⟨v,rw2,hv,hR2,hd⟩:=Jg4 L (T.keep (X6 T.at_ [])) hfw hcl s (rw:=rw);refine Je rfl rfl rfl ?_;refine Ks hd ?_;clear hR hd;refine JQ ?_;obtain⟨zv,tv,rfl,hzv,-⟩:=hv.ex;have hml:=Jf3 hfw T.ups s;generalize V5 cs U s=l at *;have hll:=Vc l;refine' JM;refine JB hm (λmm e S'=>∃(q:Nat) (J:List Blk) (lv:AV) (rw3:List Nat),S'=⟨hp H n (.cells [.list z tg (cs.map Jc),.map mb,.list zb tb (U.map Vl),o1,o2,o3,sl]) J,rw3⟩/\q<=l.length/\Lst rw2 13 lv (Ko (ovM nm (l.take q))) rw3/\Rx rw2 rw3/\mm=l.length-q /\
  e=[(2,.str nm),(7,lv),(12,.list zv tv (Ko l)),(13,.int .i64 ((Ko l).length:Int)),(14,.int .i64 q)]) ?_ (m:=l.length) ⟨0,[],_,rw2,rfl,O,Lst.nil,Rx.rfl,rfl,rfl⟩
 rintro mm e S' ⟨q,J,lv,rw3,rfl,hq0,hl,hR,rfl,rfl⟩;by_cases hq1:q<l.length
 ·obtain⟨x,hx⟩:∃ x,l[q]? = some x:=⟨_,Ab hq1⟩
  have hxr:=ZR hx;have hz1:zv=13:=hzv EU;subst hz1;have hsn:=Ju2 (nm:=nm) hx;have hol:=Jra nm (l.take q);have htk:(l.take q).length<=q:=EW
  obtain⟨xs,xo,mn,mp,⟨k1,t1,u1,e1,p1,a1⟩,bd,ab,at1⟩:=x;simp only at hxr hsn;refine' JM
  ·rw[if_pos Aa]at hsn;rw[Jl9];refine Qp ?_;refine Q1 rfl (vs:=[.agg (KK xs xo ⟨mn,mp,.mk k1 t1 u1 e1 p1 a1,bd,ab,at1⟩)]) rfl ?_;refine Z2 (Xu _ _ _) ?_;refine' JM;refine JT ?_;refine JW rfl rfl rfl ?_;refine QB (row:=KK xs xo ⟨mn,mp,.mk k1 t1 u1 e1 p1 a1,bd,ab,at1⟩) hl hR Fb Fb O ?_;intro l4 rw4 hl4 hR4;refine JQ ?_;refine' JM;refine⟨l.length-(q+1),O,q+1,_,l4,rw4,rfl,O,?_,hR4,rfl,rfl⟩;rw[hsn,JbX];exact hl4
  ·rw[if_neg Aa,Ar]at hsn;exact⟨l.length-(q+1),O,q+1,_,lv,rw3,rfl,O,by rw[hsn];exact hl,hR,rfl,rfl⟩
 ·refine' JM;rw[show q=l.length by omega,AI]at hl;exact Js rfl (hl.isL.below _) (JR hlt) ⟨lv,rw3,hl.isL,hR2.trans hR,rfl,QP T.at_⟩
end Go.Proofs.YtmeakjgbjldkdaaGreat.Ai
namespace Go.Proofs.YtmeakjgbjldkdaaGreat.Tr
open Go Go.Proofs.YtmeakjgbjldkdaaGreat.Ai
set_option maxRecDepth 100000
set_option maxHeartbeats 16000000
def t4:{l:List (Nat×TI) // tis Tryz.prog [149,20,143,248,147]=l}:=⟨_,AO⟩
def tu:{l:List (Nat×TI) // t4.1++tt.1=l}:=⟨_,AO⟩
abbrev TU:List (Nat×TI):=tu.1
end Go.Proofs.YtmeakjgbjldkdaaGreat.Tr
namespace Go.Proofs.YtmeakjgbjldkdaaGreat.Ai
open Go
open Tr(pk)
def J0o:{l:List IC // Tr.fn Tr.TU Tryz.f117 0 [[]]=l}:=⟨_,AO⟩
def JN9:IC:=pk J0o.1 0
def JOa:IFn:=⟨2,JN9,[]⟩
theorem J3Y:JK Tryz.prog Tryz.f117 JOa=true:=Ae
def Jvg:{l:List IC // Tr.fn Tr.TU Tryz.f224 0 [[1],[1,4],[]]=l}:=⟨_,AO⟩
def JOb:IC:=pk Jvg.1 0
def JOc:IC:=pk Jvg.1 1
def JOd:IC:=pk Jvg.1 2
def JOe:IFn:=⟨1,(.seq JOb (.seq JOc (.cond (.tmp 4) JOd (.skip)))),[]⟩
theorem J3Z:JK Tryz.prog Tryz.f224 JOe=true:=Ae
def JEm:{l:List IC // Tr.fn Tr.TU Tryz.f178 0 [[0,2],[2]]=l}:=⟨_,AO⟩
def Jvh:IC:=pk JEm.1 0
def JOf:IC:=pk JEm.1 1
def JOg:IFn:=⟨1,(.seq Jvh (.seq JOf .ret)),[.cell 2 (some 6)]⟩
theorem J30:JK Tryz.prog Tryz.f178 JOg=true:=Ae
def Jvi:{l:List IC // Tr.fn Tr.TU Tryz.f218 0 [[1,2],[1,2],[2]]=l}:=⟨_,AO⟩
def Jvj:IC:=pk Jvi.1 0
def JOh:IC:=pk Jvi.1 1
def JOi:IC:=pk Jvi.1 2
def JOj:IFn:=⟨1,(.seq Jvj (.seq JOh (.seq JOi .ret))),[.cell 2 (some 6)]⟩
theorem J31:JK Tryz.prog Tryz.f218 JOj=true:=Ae
def Jvk:{l:List IC // Tr.fn Tr.TU Tryz.f182 0 [[2,3,4],[2,4],[4]]=l}:=⟨_,AO⟩
def Jvl:IC:=pk Jvk.1 0
def JOk:IC:=pk Jvk.1 1
def JOl:IC:=pk Jvk.1 2
def JOm:IFn:=⟨2,(.seq Jvl (.seq JOk (.seq JOl .ret))),[.cell 4 (some 5)]⟩
theorem J32:JK Tryz.prog Tryz.f182 JOm=true:=Ae
def JsO:{l:List IC // Tr.fn Tr.TU Tryz.f45 0 [[1,2],[1,2,5],[2],[1,2,12],[2],[2]]=l}:=⟨_,AO⟩
def JEn:IC:=pk JsO.1 0
def J0p:IC:=pk JsO.1 1
def J0q:IC:=pk JsO.1 2
def J0r:IC:=pk JsO.1 3
def J0s:IC:=pk JsO.1 4
def J0t:IC:=pk JsO.1 5
def i45:IFn:=⟨1,(.seq JEn (.seq (.seq J0p (.cond (.tmp 5) (.seq J0q .ret) (.skip))) (.seq (.seq J0r (.cond (.tmp 12) (.seq J0s .ret) (.skip))) (.seq J0t .ret)))),[.cell 2 (some 6)]⟩
theorem c45:JK Tryz.prog Tryz.f45 i45=true:=Ae
def Jg5:{l:List IC // Tr.fn Tr.TU Tryz.f122 0 [[0,4,5],[0,4,5,7],[6],[0,4,5,19],[6],[4,5,34],[6],[6]]=l}:=⟨_,AO⟩
def JOn:IC:=pk Jg5.1 0
def JOo:IC:=pk Jg5.1 1
def JOp:IC:=pk Jg5.1 2
def JOq:IC:=pk Jg5.1 3
def JOr:IC:=pk Jg5.1 4
def JOs:IC:=pk Jg5.1 5
def JOt:IC:=pk Jg5.1 6
def JOu:IC:=pk Jg5.1 7
def JOv:IFn:=⟨3,(.seq JOn (.seq (.block 0 (.seq JOo (.cond (.tmp 7) (.seq JOp .ret) (.seq JOq (.cond (.tmp 19) (.seq JOr .ret) (.seq JOs (.cond (.tmp 34) (.seq JOt .ret) (.skip)))))))) (.seq JOu .ret))),[.tmp 6]⟩
theorem J34:JK Tryz.prog Tryz.f122 JOv=true:=Ae
def Jvm:{l:List IC // Tr.fn Tr.TU Tryz.f176 0 [[1,3,4,6,8],[4,8],[8]]=l}:=⟨_,AO⟩
def Jvn:IC:=pk Jvm.1 0
def JOw:IC:=pk Jvm.1 1
def JOx:IC:=pk Jvm.1 2
def JOy:IFn:=⟨4,(.seq Jvn (.seq JOw (.seq JOx .ret))),[.cell 8 (some 6)]⟩
theorem J35:JK Tryz.prog Tryz.f176 JOy=true:=Ae
def Job:{l:List IC // Tr.fn Tr.TU Tryz.f177 0 [[0,4,5,6],[0,4,5,6,7],[4,6,7,19],[6,7],[6]]=l}:=⟨_,AO⟩
def Jvo:IC:=pk Job.1 0
def JOz:IC:=pk Job.1 1
def JOA:IC:=pk Job.1 2
def JOB:IC:=pk Job.1 3
def JOC:IC:=pk Job.1 4
def JOD:IFn:=⟨3,(.seq Jvo (.seq JOz (.seq (.seq JOA (.cond (.tmp 19) JOB (.skip))) (.seq JOC .ret)))),[.cell 6 (some 5)]⟩
theorem J36:JK Tryz.prog Tryz.f177 JOD=true:=Ae
def Jvp:{l:List IC // Tr.fn Tr.TU Tryz.f116 0 [[2,3,4],[2,3,4],[4]]=l}:=⟨_,AO⟩
def Jvq:IC:=pk Jvp.1 0
def JOE:IC:=pk Jvp.1 1
def JOF:IC:=pk Jvp.1 2
def JOG:IFn:=⟨2,(.seq Jvq (.seq JOE (.seq JOF .ret))),[.cell 4 (some 5)]⟩
theorem J37:JK Tryz.prog Tryz.f116 JOG=true:=Ae
def JEo:{l:List IC // Tr.fn Tr.TU Tryz.f242 0 [[0,4,5],[6]]=l}:=⟨_,AO⟩
def JOH:IC:=pk JEo.1 0
def JOI:IC:=pk JEo.1 1
def JOJ:IFn:=⟨3,(.seq JOH (.seq JOI .ret)),[.tmp 6]⟩
theorem J38:JK Tryz.prog Tryz.f242 JOJ=true:=Ae
def Joc:{l:List IC // Tr.fn Tr.TU Tryz.f118 0 [[0,1,4],[4,6,7],[4,6,21],[4,5],[4,5]]=l}:=⟨_,AO⟩
def Jvr:IC:=pk Joc.1 0
def JOK:IC:=pk Joc.1 1
def JOL:IC:=pk Joc.1 2
def JOM:IC:=pk Joc.1 3
def JON:IC:=pk Joc.1 4
def JOO:IFn:=⟨2,(.seq Jvr (.seq JOK (.seq (.seq JOL (.cond (.tmp 21) (.seq JOM .ret) (.skip))) (.seq JON .ret)))),[.cell 4 (some 5),.tmp 5]⟩
theorem J39:JK Tryz.prog Tryz.f118 JOO=true:=Ae
def Jjo:{l:List IC // Tr.fn Tr.TU Tryz.f185 0 [[0,1,4],[0,1,4,6],[0,1,4,6,14],[0,1,4,6,26],[4,5],[0,1,4,6],[4,5]]=l}:=⟨_,AO⟩
def Jvs:IC:=pk Jjo.1 0
def JOP:IC:=pk Jjo.1 1
def JOQ:IC:=pk Jjo.1 2
def JOR:IC:=pk Jjo.1 3
def JOS:IC:=pk Jjo.1 4
def JOT:IC:=pk Jjo.1 5
def JOU:IC:=pk Jjo.1 6
def JOV:IFn:=⟨2,(.seq Jvs (.seq (.seq JOP (.block 0 (.loop [0,1,4,6] (.seq (.seq JOQ (.cond (.tmp 14) (.skip) (.exit 0))) (.seq (.block 1 (.seq JOR (.cond (.tmp 26) (.seq JOS .ret) (.skip)))) JOT))))) (.seq JOU .ret))),[.cell 4 (some 8),.tmp 5]⟩
theorem J4a:JK Tryz.prog Tryz.f185 JOV=true:=Ae
def JdR:{l:List IC // Tr.fn Tr.TU Tryz.f225 0 [[1,2],[1,2,3],[1,2,3,7,8,9],[1,2,3,7,8,9,10],[1,2,3,5,7,8,9],[1,2,3,5,7,8,9,14],[1,2,3,7,8,9],[1,2,3,7,8,9],[1,2],[2]]=l}:=⟨_,AO⟩
def Jvt:IC:=pk JdR.1 0
def JOW:IC:=pk JdR.1 1
def JOX:IC:=pk JdR.1 2
def JOY:IC:=pk JdR.1 3
def JOZ:IC:=pk JdR.1 4
def JO0:IC:=pk JdR.1 5
def JO1:IC:=pk JdR.1 6
def JO2:IC:=pk JdR.1 7
def JO3:IC:=pk JdR.1 8
def JO4:IC:=pk JdR.1 9
def JO5:IFn:=⟨1,(.seq Jvt (.seq JOW (.seq (.seq JOX (.block 0 (.loop [1,2,3,7,8,9] (.seq JOY (.seq (.cond (.tmp 10) (.skip) (.exit 0)) (.seq (.block 1 (.seq JOZ (.seq JO0 (.cond (.tmp 14) JO1 (.skip))))) JO2)))))) (.seq JO3 (.seq JO4 .ret))))),[.cell 2 (some 6)]⟩
theorem J4b:JK Tryz.prog Tryz.f225 JO5=true:=Ae
def JdS:{l:List IC // Tr.fn Tr.TU Tryz.f181 0 [[0,1,2],[0,1,2,13],[6],[0,2,14,15,16],[0,2,14,15,16,17],[0,2,7,8,14,15,16],[0,2,14,15,16,33],[6],[0,2,14,15,16],[6]]=l}:=⟨_,AO⟩
def JO6:IC:=pk JdS.1 0
def JO7:IC:=pk JdS.1 1
def JO8:IC:=pk JdS.1 2
def JO9:IC:=pk JdS.1 3
def JPa:IC:=pk JdS.1 4
def JPb:IC:=pk JdS.1 5
def JPc:IC:=pk JdS.1 6
def JPd:IC:=pk JdS.1 7
def JPe:IC:=pk JdS.1 8
def JPf:IC:=pk JdS.1 9
def JPg:IFn:=⟨3,(.seq JO6 (.seq (.seq JO7 (.cond (.tmp 13) (.seq JO8 .ret) (.skip))) (.seq (.seq JO9 (.block 0 (.loop [0,2,14,15,16] (.seq JPa (.seq (.cond (.tmp 17) (.skip) (.exit 0)) (.seq (.block 1 (.seq JPb (.seq JPc (.cond (.tmp 33) (.seq JPd .ret) (.skip))))) JPe)))))) (.seq JPf .ret)))),[.tmp 6]⟩
theorem J4c:JK Tryz.prog Tryz.f181 JPg=true:=Ae
def Jcd:{l:List IC // Tr.fn Tr.TU Tryz.f241 0 [[0,2,4],[0,4,11,12,13],[0,4,11,12,13,14],[0,4,8,11,12,13],[0,4,8,11,12,13,19,20,21],[0,4,8,11,12,13,19,20,21,22],[0,4,8,9,10,11,12,13,19,20,21],[0,4,8,11,12,13,19,20,21,40],[6],[0,4,8,11,12,13,19,20,21],[0,4,11,12,13],[6]]=l}:=⟨_,AO⟩
def JPh:IC:=pk Jcd.1 0
def JPi:IC:=pk Jcd.1 1
def JPj:IC:=pk Jcd.1 2
def JPk:IC:=pk Jcd.1 3
def JPl:IC:=pk Jcd.1 4
def JPm:IC:=pk Jcd.1 5
def JPn:IC:=pk Jcd.1 6
def JPo:IC:=pk Jcd.1 7
def JPp:IC:=pk Jcd.1 8
def JPq:IC:=pk Jcd.1 9
def JBM:IC:=pk Jcd.1 10
def JBN:IC:=pk Jcd.1 11
def JPr:IFn:=⟨3,(.seq JPh (.seq (.seq JPi (.block 0 (.loop [0,4,11,12,13] (.seq JPj (.seq (.cond (.tmp 14) (.skip) (.exit 0)) (.seq (.block 1 (.seq JPk (.seq JPl (.block 2 (.loop [0,4,8,11,12,13,19,20,21] (.seq JPm (.seq (.cond (.tmp 22) (.skip) (.exit 2)) (.seq (.block 3 (.seq JPn (.seq JPo (.cond (.tmp 40) (.seq JPp .ret) (.skip))))) JPq)))))))) JBM)))))) (.seq JBN .ret))),[.tmp 6]⟩
theorem J4d:JK Tryz.prog Tryz.f241 JPr=true:=Ae
def Jjp:{l:List IC // Tr.fn Tr.TU Tryz.f186 0 [[0,2,3,5,8],[0,2,3,5,8,15],[0,2,3,5,8],[3,8,9,11],[3,8,9,32],[8,9],[8]]=l}:=⟨_,AO⟩
def Jvu:IC:=pk Jjp.1 0
def JPs:IC:=pk Jjp.1 1
def JPt:IC:=pk Jjp.1 2
def JPu:IC:=pk Jjp.1 3
def JPv:IC:=pk Jjp.1 4
def JPw:IC:=pk Jjp.1 5
def JPx:IC:=pk Jjp.1 6
def JPy:IFn:=⟨4,(.seq Jvu (.seq (.seq JPs (.cond (.tmp 15) JPt (.skip))) (.seq JPu (.seq (.seq JPv (.cond (.tmp 32) JPw (.skip))) (.seq JPx .ret))))),[.cell 8 (some 9)]⟩
theorem J4e:JK Tryz.prog Tryz.f186 JPy=true:=Ae
def VE:{l:List IC // Tr.fn Tr.TU Tryz.f180 0 [[0,3,4],[0,3,4,33],[0,3,4],[0,3,4,38],[0,3,4,38,39],[0,3,4,38,39],[4],[0,3,4,38,45],[0,3,4,38,45],[4],[0,3,4,38,51],[4],[0,3,4,38,56],[0,3,4,62],[0,3,4],[4],[0,3,4,38,73],[3,4,5,6],[3,4,5,83],[3,4,5],[4],[0,3,4,38,91],[4],[0,3,4,96],[4],[0,3,4,7],[0,3,4,7,102,103,104],[0,3,4,7,102,103,104,105],[0,3,4,7,9,102,103,104],[0,3,4,7,102,103,104],[0,3,4,7,102,103,104,129],[0,3,4,7,102,103,104],[0,3,4,7,102,103,104],[0,3,4,7],[0,3,4,7,137],[0,3,4,7,137,138]]=l}:=⟨_,AO⟩
def Jvv:IC:=pk VE.1 0
def JPz:IC:=pk VE.1 1
def JPA:IC:=pk VE.1 2
def JpR:IC:=pk VE.1 3
def JpS:IC:=pk VE.1 4
def JpT:IC:=pk VE.1 5
def JpU:IC:=pk VE.1 6
def JpV:IC:=pk VE.1 7
def JpW:IC:=pk VE.1 8
def JpX:IC:=pk VE.1 9
def Jma:IC:=pk VE.1 10
def Jmb:IC:=pk VE.1 11
def Jmc:IC:=pk VE.1 12
def Jmd:IC:=pk VE.1 13
def Jme:IC:=pk VE.1 14
def Jmf:IC:=pk VE.1 15
def Jmg:IC:=pk VE.1 16
def Jmh:IC:=pk VE.1 17
def Jmi:IC:=pk VE.1 18
def Jmj:IC:=pk VE.1 19
def Jmk:IC:=pk VE.1 20
def Jml:IC:=pk VE.1 21
def Jmm:IC:=pk VE.1 22
def Jmn:IC:=pk VE.1 23
def Jmo:IC:=pk VE.1 24
def Jmp:IC:=pk VE.1 25
def Jmq:IC:=pk VE.1 26
def JhH:IC:=pk VE.1 27
def JhI:IC:=pk VE.1 28
def JhJ:IC:=pk VE.1 29
def JhK:IC:=pk VE.1 30
def JhL:IC:=pk VE.1 31
def JhM:IC:=pk VE.1 32
def JhN:IC:=pk VE.1 33
def JhO:IC:=pk VE.1 34
def JhP:IC:=pk VE.1 35
def Jac:{l:List IC // Tr.fn Tr.TU Tryz.f180 36 [[0,3,4,10],[3,4,10,157],[3,4,10],[4],[0,3,4,7,137,165],[4],[0,3,4,7,137,170],[3,4,7,11],[3,4,11,186],[3,4,11],[4],[0,3,4,7,196],[3,4,203],[3,4],[4],[4]]=l}:=⟨_,AO⟩
def JhQ:IC:=pk Jac.1 0
def JhR:IC:=pk Jac.1 1
def JhS:IC:=pk Jac.1 2
def JhT:IC:=pk Jac.1 3
def JhU:IC:=pk Jac.1 4
def JhV:IC:=pk Jac.1 5
def JhW:IC:=pk Jac.1 6
def JhX:IC:=pk Jac.1 7
def JhY:IC:=pk Jac.1 8
def JhZ:IC:=pk Jac.1 9
def Jh0:IC:=pk Jac.1 10
def Jh1:IC:=pk Jac.1 11
def Jh2:IC:=pk Jac.1 12
def Jh3:IC:=pk Jac.1 13
def Jh4:IC:=pk Jac.1 14
def Jh5:IC:=pk Jac.1 15
def JPB:IFn:=⟨2,(.seq Jvv (.seq (.seq JPz (.cond (.tmp 33) JPA (.skip))) (.seq (.seq JpR (.block 0 (.seq (.seq JpS (.cond (.tmp 39) (.skip) JpT)) (.cond (.tmp 39) (.seq JpU .ret) (.seq (.seq JpV (.cond (.tmp 45) (.skip) JpW)) (.cond (.tmp 45) (.seq JpX .ret) (.seq Jma (.cond (.tmp 51) (.seq Jmb .ret) (.seq Jmc (.cond (.tmp 56) (.seq (.seq Jmd (.cond (.tmp 62) Jme (.skip))) (.seq Jmf .ret)) (.seq Jmg (.cond (.tmp 73) (.seq Jmh (.seq (.seq Jmi (.cond (.tmp 83) Jmj (.skip))) (.seq Jmk .ret))) (.seq Jml (.cond (.tmp 91) (.seq Jmm .ret) (.seq Jmn (.cond (.tmp 96) (.seq Jmo .ret) (.skip))))))))))))))))) (.seq Jmp (.seq (.seq Jmq (.block 1 (.loop [0,3,4,7,102,103,104] (.seq JhH (.seq (.cond (.tmp 105) (.skip) (.exit 1)) (.seq (.block 2 (.seq JhI (.seq JhJ (.seq JhK (.cond (.tmp 129) JhL (.skip)))))) JhM)))))) (.seq JhN (.seq (.seq JhO (.block 3 (.seq JhP (.cond (.tmp 138) (.seq JhQ (.seq (.seq JhR (.cond (.tmp 157) JhS (.skip))) (.seq JhT .ret))) (.seq JhU (.cond (.tmp 165) (.seq JhV .ret) (.seq JhW (.cond (.tmp 170) (.seq JhX (.seq (.seq JhY (.cond (.tmp 186) JhZ (.skip))) (.seq Jh0 .ret))) (.seq Jh1 (.cond (.tmp 196) (.seq (.seq Jh2 (.cond (.tmp 203) Jh3 (.skip))) (.seq Jh4 .ret)) (.skip))))))))))) (.seq Jh5 .ret)))))))),[.cell 4 (some 5)]⟩
theorem J4f:JK Tryz.prog Tryz.f180 JPB=true:=Ae
def ZU:{l:List IC // Tr.fn Tr.TU Tryz.f220 0 [[0,3,4],[0,3,4,5,6],[0,3,4,5,23],[0,3,4,5],[0,3,4,28],[0,3,4],[0,3,4,7],[0,3,4,7,33,34,35],[0,3,4,7,33,34,35,36],[0,3,4,7,9,33,34,35],[0,3,4,7,33,34,35],[0,3,4,7,33,34,35],[0,3,4,7],[0,3,4,7,10],[3,4,63],[3,4],[4]]=l}:=⟨_,AO⟩
def Jvw:IC:=pk ZU.1 0
def JPC:IC:=pk ZU.1 1
def JPD:IC:=pk ZU.1 2
def JPE:IC:=pk ZU.1 3
def JPF:IC:=pk ZU.1 4
def JPG:IC:=pk ZU.1 5
def JPH:IC:=pk ZU.1 6
def JPI:IC:=pk ZU.1 7
def JPJ:IC:=pk ZU.1 8
def JPK:IC:=pk ZU.1 9
def JBO:IC:=pk ZU.1 10
def JBP:IC:=pk ZU.1 11
def JBQ:IC:=pk ZU.1 12
def JBR:IC:=pk ZU.1 13
def JBS:IC:=pk ZU.1 14
def JBT:IC:=pk ZU.1 15
def JBU:IC:=pk ZU.1 16
def JPL:IFn:=⟨2,(.seq Jvw (.seq JPC (.seq (.seq JPD (.cond (.tmp 23) JPE (.skip))) (.seq (.seq JPF (.cond (.tmp 28) JPG (.skip))) (.seq JPH (.seq (.seq JPI (.block 0 (.loop [0,3,4,7,33,34,35] (.seq JPJ (.seq (.cond (.tmp 36) (.skip) (.exit 0)) (.seq (.block 1 (.seq JPK JBO)) JBP)))))) (.seq JBQ (.seq JBR (.seq (.seq JBS (.cond (.tmp 63) JBT (.skip))) (.seq JBU .ret)))))))))),[.cell 4 (some 5)]⟩
theorem J4g:JK Tryz.prog Tryz.f220 JPL=true:=Ae
def Jfl:{l:List IC // Tr.fn Tr.TU Tryz.f221 0 [[0,3,4],[0,3,4],[0,3,4,5],[0,3,4,6],[0,3,4,6,7,8],[3,4,6,7,8,56],[3,4,6,7,8],[3,4],[4]]=l}:=⟨_,AO⟩
def Jvx:IC:=pk Jfl.1 0
def JPM:IC:=pk Jfl.1 1
def JPN:IC:=pk Jfl.1 2
def JPO:IC:=pk Jfl.1 3
def JPP:IC:=pk Jfl.1 4
def JPQ:IC:=pk Jfl.1 5
def JPR:IC:=pk Jfl.1 6
def JPS:IC:=pk Jfl.1 7
def JPT:IC:=pk Jfl.1 8
def JPU:IFn:=⟨2,(.seq Jvx (.seq JPM (.seq JPN (.seq JPO (.seq JPP (.seq (.seq JPQ (.cond (.tmp 56) JPR (.skip))) (.seq JPS (.seq JPT .ret)))))))),[.cell 4 (some 5)]⟩
theorem J4h:JK Tryz.prog Tryz.f221 JPU=true:=Ae
def Ze:{l:List IC // Tr.fn Tr.TU Tryz.f222 0 [[0,3,4],[0,3,4,5],[0,3,4,5,22,23,24],[0,3,4,5,22,23,24,25],[0,3,4,5,7,22,23,24],[0,3,4,5,7,22,23,24,35],[0,3,4,5,22,23,24],[0,3,4,5,22,23,24],[0,3,4,5,43],[0,3,4,5],[0,3,4,5,47,48,49],[0,3,4,5,47,48,49,50],[0,3,4,5,9,47,48,49],[0,3,4,5,9,47,48,49,56],[3,4,9],[4],[0,3,4,5,47,48,49],[3,4],[4]]=l}:=⟨_,AO⟩
def Jvy:IC:=pk Ze.1 0
def JPV:IC:=pk Ze.1 1
def JPW:IC:=pk Ze.1 2
def JPX:IC:=pk Ze.1 3
def JPY:IC:=pk Ze.1 4
def JPZ:IC:=pk Ze.1 5
def JP0:IC:=pk Ze.1 6
def JP1:IC:=pk Ze.1 7
def JP2:IC:=pk Ze.1 8
def JP3:IC:=pk Ze.1 9
def JBV:IC:=pk Ze.1 10
def JBW:IC:=pk Ze.1 11
def JBX:IC:=pk Ze.1 12
def JBY:IC:=pk Ze.1 13
def JBZ:IC:=pk Ze.1 14
def JB0:IC:=pk Ze.1 15
def JB1:IC:=pk Ze.1 16
def JB2:IC:=pk Ze.1 17
def JB3:IC:=pk Ze.1 18
def JP4:IFn:=⟨2,(.seq Jvy (.seq JPV (.seq (.seq JPW (.block 0 (.loop [0,3,4,5,22,23,24] (.seq JPX (.seq (.cond (.tmp 25) (.skip) (.exit 0)) (.seq (.block 1 (.seq JPY (.seq JPZ (.cond (.tmp 35) JP0 (.skip))))) JP1)))))) (.seq (.seq JP2 (.cond (.tmp 43) JP3 (.skip))) (.seq (.seq JBV (.block 2 (.loop [0,3,4,5,47,48,49] (.seq JBW (.seq (.cond (.tmp 50) (.skip) (.exit 2)) (.seq (.block 3 (.seq JBX (.seq JBY (.cond (.tmp 56) (.seq JBZ (.seq JB0 .ret)) (.skip))))) JB1)))))) (.seq JB2 (.seq JB3 .ret))))))),[.cell 4 (some 5)]⟩
theorem J4i:JK Tryz.prog Tryz.f222 JP4=true:=Ae
def XG:{l:List IC // Tr.fn Tr.TU Tryz.f223 0 [[0,3,4],[0,3,4,5,6],[0,3,4,5,6,10],[0,3,4,5,6,10,11],[0,3,4,5,6,10,11],[0,3,4,5,6,10,11],[0,3,4,5,6,10,11],[0,3,4,5,6,10,11],[0,3,4,5,6,10,11],[3,4,5,6],[0,3,4,5,6,10,18],[0,3,4,5,6,10,18],[0,3,4,5,6,10,18],[0,3,4,5,6,10,18],[3,4,5,6],[0,3,4,5,6,10,23],[0,3,4,5,6,23],[3,4,38],[3,4],[4],[3,4,5,6,46,47,48],[3,4,5,6,46,47,48,49],[3,4,5,6,8,46,47,48],[3,4,5,6,46,47,48,56],[3,4,5,6,46,47,48],[3,4,5,6,46,47,48],[4]]=l}:=⟨_,AO⟩
def Jvz:IC:=pk XG.1 0
def JP5:IC:=pk XG.1 1
def JP6:IC:=pk XG.1 2
def JP7:IC:=pk XG.1 3
def JP8:IC:=pk XG.1 4
def JP9:IC:=pk XG.1 5
def JQa:IC:=pk XG.1 6
def JQb:IC:=pk XG.1 7
def JQc:IC:=pk XG.1 8
def JQd:IC:=pk XG.1 9
def JB4:IC:=pk XG.1 10
def JB5:IC:=pk XG.1 11
def JB6:IC:=pk XG.1 12
def JB7:IC:=pk XG.1 13
def JB8:IC:=pk XG.1 14
def JB9:IC:=pk XG.1 15
def JCa:IC:=pk XG.1 16
def JCb:IC:=pk XG.1 17
def JCc:IC:=pk XG.1 18
def JCd:IC:=pk XG.1 19
def JCe:IC:=pk XG.1 20
def Jrn:IC:=pk XG.1 21
def Jro:IC:=pk XG.1 22
def Jrp:IC:=pk XG.1 23
def Jrq:IC:=pk XG.1 24
def Jrr:IC:=pk XG.1 25
def Jrs:IC:=pk XG.1 26
def JQe:IFn:=⟨2,(.seq Jvz (.seq JP5 (.seq (.seq JP6 (.block 0 (.seq (.seq JP7 (.cond (.tmp 11) (.skip) (.seq JP8 (.cond (.tmp 11) (.skip) (.seq JP9 (.cond (.tmp 11) (.skip) (.seq JQa (.cond (.tmp 11) (.skip) (.seq JQb (.cond (.tmp 11) (.skip) JQc)))))))))) (.cond (.tmp 11) JQd (.seq (.seq JB4 (.cond (.tmp 18) (.skip) (.seq JB5 (.cond (.tmp 18) (.skip) (.seq JB6 (.cond (.tmp 18) (.skip) JB7)))))) (.cond (.tmp 18) JB8 (.seq (.seq JB9 (.cond (.tmp 23) (.skip) JCa)) (.cond (.tmp 23) (.seq (.seq JCb (.cond (.tmp 38) JCc (.skip))) (.seq JCd .ret)) (.skip))))))))) (.seq (.seq JCe (.block 1 (.loop [3,4,5,6,46,47,48] (.seq Jrn (.seq (.cond (.tmp 49) (.skip) (.exit 1)) (.seq (.block 2 (.seq Jro (.seq Jrp (.cond (.tmp 56) Jrq (.skip))))) Jrr)))))) (.seq Jrs .ret))))),[.cell 4 (some 5)]⟩
theorem J4j:JK Tryz.prog Tryz.f223 JQe=true:=Ae
def Zo:{l:List IC // Tr.fn Tr.TU Tryz.f115 0 [[2,3,4],[2,3,4,5],[2,3,4,5,14,15,16],[2,3,4,5,14,15,16,17],[2,3,4,5,7,14,15,16],[2,3,4,5,7,8,14,15,16],[2,3,4,5,14,15,16],[2,3,4,5,14,15,16],[2,3,4],[2,3,4,9],[2,3,4,9,33,34,35],[2,3,4,9,33,34,35,36],[2,3,4,9,11,33,34,35],[2,3,4,9,11,12,33,34,35],[2,3,4,9,33,34,35],[2,3,4,9,33,34,35],[3,4],[4]]=l}:=⟨_,AO⟩
def JvA:IC:=pk Zo.1 0
def JQf:IC:=pk Zo.1 1
def JQg:IC:=pk Zo.1 2
def JQh:IC:=pk Zo.1 3
def JQi:IC:=pk Zo.1 4
def JQj:IC:=pk Zo.1 5
def JQk:IC:=pk Zo.1 6
def JQl:IC:=pk Zo.1 7
def JQm:IC:=pk Zo.1 8
def JQn:IC:=pk Zo.1 9
def JCf:IC:=pk Zo.1 10
def JCg:IC:=pk Zo.1 11
def JCh:IC:=pk Zo.1 12
def JCi:IC:=pk Zo.1 13
def JCj:IC:=pk Zo.1 14
def JCk:IC:=pk Zo.1 15
def JCl:IC:=pk Zo.1 16
def JCm:IC:=pk Zo.1 17
def JQo:IFn:=⟨2,(.seq JvA (.seq JQf (.seq (.seq JQg (.block 0 (.loop [2,3,4,5,14,15,16] (.seq JQh (.seq (.cond (.tmp 17) (.skip) (.exit 0)) (.seq (.block 1 (.seq JQi (.seq JQj JQk))) JQl)))))) (.seq JQm (.seq JQn (.seq (.seq JCf (.block 2 (.loop [2,3,4,9,33,34,35] (.seq JCg (.seq (.cond (.tmp 36) (.skip) (.exit 2)) (.seq (.block 3 (.seq JCh (.seq JCi JCj))) JCk)))))) (.seq JCl (.seq JCm .ret)))))))),[.cell 4 (some 6)]⟩
theorem J4k:JK Tryz.prog Tryz.f115 JQo=true:=Ae
def Jmr:{l:List IC // Tr.fn Tr.TU Tryz.f78 0 [[0,1],[1,5],[1,5,6],[5,6,12,13,14],[5,6,12,13,14,15],[5,6,8,12,13,14],[5,6,12,13,14],[5,6,12,13,14],[4]]=l}:=⟨_,AO⟩
def J0u:IC:=pk Jmr.1 0
def J0v:IC:=pk Jmr.1 1
def J0w:IC:=pk Jmr.1 2
def J0x:IC:=pk Jmr.1 3
def J0y:IC:=pk Jmr.1 4
def J0z:IC:=pk Jmr.1 5
def J0A:IC:=pk Jmr.1 6
def J0B:IC:=pk Jmr.1 7
def J0C:IC:=pk Jmr.1 8
def i78:IFn:=⟨2,(.seq J0u (.seq J0v (.seq J0w (.seq (.seq J0x (.block 0 (.loop [5,6,12,13,14] (.seq J0y (.seq (.cond (.tmp 15) (.skip) (.exit 0)) (.seq (.block 1 (.seq J0z J0A)) J0B)))))) (.seq J0C .ret))))),[.tmp 4]⟩
theorem c78:JK Tryz.prog Tryz.f78 i78=true:=Ae
def XH:{l:List IC // Tr.fn Tr.TU Tryz.f121 0 [[0,3,4],[0,3,4,15],[0,3,4,15,24],[4],[0,3,4,15,29],[0,3,4,5,6],[0,3,4,5,39],[0,3,4,5],[0,3,4,5,44],[0,3,4,5],[3,4],[0,3,4,15,58],[0,3,4,7],[0,3,4,7,8],[0,3,4,7,8,74],[0,3,4,7,8],[3,4],[0,3,4,15,89],[0,3,4,9],[0,3,4,9,100],[0,3,4,9],[0,3,4,9,10],[3,4],[0,3,4,15,126],[0,3,4],[3,4],[0,3,4,15,147]]=l}:=⟨_,AO⟩
def Ja6:IC:=pk XH.1 0
def JQp:IC:=pk XH.1 1
def JQq:IC:=pk XH.1 2
def JQr:IC:=pk XH.1 3
def JQs:IC:=pk XH.1 4
def JQt:IC:=pk XH.1 5
def JQu:IC:=pk XH.1 6
def JQv:IC:=pk XH.1 7
def JQw:IC:=pk XH.1 8
def JQx:IC:=pk XH.1 9
def JCn:IC:=pk XH.1 10
def JCo:IC:=pk XH.1 11
def JCp:IC:=pk XH.1 12
def JCq:IC:=pk XH.1 13
def JCr:IC:=pk XH.1 14
def JCs:IC:=pk XH.1 15
def JCt:IC:=pk XH.1 16
def JCu:IC:=pk XH.1 17
def JCv:IC:=pk XH.1 18
def JCw:IC:=pk XH.1 19
def JCx:IC:=pk XH.1 20
def JCy:IC:=pk XH.1 21
def JCz:IC:=pk XH.1 22
def JCA:IC:=pk XH.1 23
def JCB:IC:=pk XH.1 24
def JCC:IC:=pk XH.1 25
def JCD:IC:=pk XH.1 26
def Jad:{l:List IC // Tr.fn Tr.TU Tryz.f121 27 [[0,3,4,11],[0,3,4,11,159,160,161],[0,3,4,11,159,160,161,162],[0,3,4,11,13,159,160,161],[0,3,4,11,159,160,161],[0,3,4,11,159,160,161],[0,3,4],[3,4],[0,3,4,15,181],[4],[0,3,4,15,186],[3,4],[0,3,4,197],[3,4],[3,4],[4]]=l}:=⟨_,AO⟩
def JCE:IC:=pk Jad.1 0
def JCF:IC:=pk Jad.1 1
def JCG:IC:=pk Jad.1 2
def JCH:IC:=pk Jad.1 3
def JCI:IC:=pk Jad.1 4
def JCJ:IC:=pk Jad.1 5
def JCK:IC:=pk Jad.1 6
def JCL:IC:=pk Jad.1 7
def JCM:IC:=pk Jad.1 8
def JCN:IC:=pk Jad.1 9
def JCO:IC:=pk Jad.1 10
def JCP:IC:=pk Jad.1 11
def JCQ:IC:=pk Jad.1 12
def JCR:IC:=pk Jad.1 13
def JCS:IC:=pk Jad.1 14
def JCT:IC:=pk Jad.1 15
def JQy:IFn:=⟨2,(.seq Ja6 (.seq (.seq JQp (.block 0 (.seq JQq (.cond (.tmp 24) (.seq JQr .ret) (.seq JQs (.cond (.tmp 29) (.seq JQt (.seq (.seq JQu (.cond (.tmp 39) JQv (.skip))) (.seq (.seq JQw (.cond (.tmp 44) JQx (.skip))) JCn))) (.seq JCo (.cond (.tmp 58) (.seq JCp (.seq JCq (.seq (.seq JCr (.cond (.tmp 74) JCs (.skip))) JCt))) (.seq JCu (.cond (.tmp 89) (.seq JCv (.seq (.seq JCw (.cond (.tmp 100) JCx (.skip))) (.seq JCy JCz))) (.seq JCA (.cond (.tmp 126) (.seq JCB JCC) (.seq JCD (.cond (.tmp 147) (.seq JCE (.seq (.seq JCF (.block 1 (.loop [0,3,4,11,159,160,161] (.seq JCG (.seq (.cond (.tmp 162) (.skip) (.exit 1)) (.seq (.block 2 (.seq JCH JCI)) JCJ)))))) (.seq JCK JCL))) (.seq JCM (.cond (.tmp 181) (.seq JCN .ret) (.seq JCO (.cond (.tmp 186) JCP (.seq JCQ (.cond (.tmp 197) JCR JCS)))))))))))))))))))) (.seq JCT .ret))),[.cell 4 (some 7)]⟩
theorem J4m:JK Tryz.prog Tryz.f121 JQy=true:=Ae
def Y2:{l:List IC // Tr.fn Tr.TU Tryz.f184 0 [[0,3,4],[0,3,4,6],[0,3,4,17],[0,3,4],[0,3,4,7],[0,3,4,7,24],[0,3,4,7],[0,3,4,7,8],[0,3,4,7,8,42],[0,3,4,7,8],[0,3,4,7],[0,3,4,7],[0,3,4,7],[0,3,4,7,9],[0,3,4,7,9],[0,3,4,7,9,77],[0,3,4,7,9],[0,3,4,7],[3,4],[4]]=l}:=⟨_,AO⟩
def JQz:IC:=pk Y2.1 0
def JQA:IC:=pk Y2.1 1
def JQB:IC:=pk Y2.1 2
def JQC:IC:=pk Y2.1 3
def JQD:IC:=pk Y2.1 4
def JQE:IC:=pk Y2.1 5
def JQF:IC:=pk Y2.1 6
def JQG:IC:=pk Y2.1 7
def JQH:IC:=pk Y2.1 8
def JQI:IC:=pk Y2.1 9
def JCU:IC:=pk Y2.1 10
def JCV:IC:=pk Y2.1 11
def JCW:IC:=pk Y2.1 12
def JCX:IC:=pk Y2.1 13
def JCY:IC:=pk Y2.1 14
def JCZ:IC:=pk Y2.1 15
def JC0:IC:=pk Y2.1 16
def JC1:IC:=pk Y2.1 17
def JC2:IC:=pk Y2.1 18
def JC3:IC:=pk Y2.1 19
def JQJ:IFn:=⟨2,(.seq JQz (.seq (.seq JQA (.seq JQB (.cond (.tmp 17) JQC (.skip)))) (.seq JQD (.seq (.seq JQE (.cond (.tmp 24) (.seq JQF (.seq JQG (.seq (.seq JQH (.cond (.tmp 42) JQI (.skip))) (.seq JCU (.seq JCV JCW))))) (.seq JCX (.seq JCY (.seq (.seq JCZ (.cond (.tmp 77) JC0 (.skip))) JC1))))) (.seq JC2 (.seq JC3 .ret)))))),[.cell 4 (some 7)]⟩
theorem J4n:JK Tryz.prog Tryz.f184 JQJ=true:=Ae
def Jg6:{l:List IC // Tr.fn Tr.TU Tryz.f187 0 [[0,3,4],[0,3,4,10],[0,3,4],[0,3,4,26],[0,3,4],[0,3,4,33],[3,4],[4]]=l}:=⟨_,AO⟩
def JvB:IC:=pk Jg6.1 0
def JQK:IC:=pk Jg6.1 1
def JQL:IC:=pk Jg6.1 2
def JQM:IC:=pk Jg6.1 3
def JQN:IC:=pk Jg6.1 4
def JQO:IC:=pk Jg6.1 5
def JQP:IC:=pk Jg6.1 6
def JQQ:IC:=pk Jg6.1 7
def JQR:IFn:=⟨2,(.seq JvB (.seq (.seq JQK (.cond (.tmp 10) JQL (.skip))) (.seq (.seq JQM (.cond (.tmp 26) JQN (.skip))) (.seq (.seq JQO (.cond (.tmp 33) JQP (.skip))) (.seq JQQ .ret))))),[.cell 4 (some 7)]⟩
theorem J4o:JK Tryz.prog Tryz.f187 JQR=true:=Ae
def Jg7:{l:List IC // Tr.fn Tr.TU Tryz.f183 0 [[0],[5,6,7],[5,6,7,8],[4,5,6,7],[5,6,7,28],[2],[5,6,7],[2]]=l}:=⟨_,AO⟩
def JQS:IC:=pk Jg7.1 0
def JQT:IC:=pk Jg7.1 1
def JQU:IC:=pk Jg7.1 2
def JQV:IC:=pk Jg7.1 3
def JQW:IC:=pk Jg7.1 4
def JQX:IC:=pk Jg7.1 5
def JQY:IC:=pk Jg7.1 6
def JQZ:IC:=pk Jg7.1 7
def JQ0:IFn:=⟨1,(.seq JQS (.seq (.seq JQT (.block 0 (.loop [5,6,7] (.seq JQU (.seq (.cond (.tmp 8) (.skip) (.exit 0)) (.seq (.block 1 (.seq JQV (.seq JQW (.cond (.tmp 28) (.seq JQX .ret) (.skip))))) JQY)))))) (.seq JQZ .ret))),[.tmp 2]⟩
theorem J4p:JK Tryz.prog Tryz.f183 JQ0=true:=Ae
def JdT:{l:List IC // Tr.fn Tr.TU Tryz.f179 0 [[1,2,4],[1,2,4,6],[2,4,6,9,10,11],[2,4,6,9,10,11,12],[2,4,6,8,9,10,11],[2,4,6,8,9,10,11],[2,4,6,8,9,10,11],[2,4,6,9,10,11],[2,4,6,9,10,11],[4,5]]=l}:=⟨_,AO⟩
def JQ1:IC:=pk JdT.1 0
def JQ2:IC:=pk JdT.1 1
def JQ3:IC:=pk JdT.1 2
def JQ4:IC:=pk JdT.1 3
def JQ5:IC:=pk JdT.1 4
def JQ6:IC:=pk JdT.1 5
def JQ7:IC:=pk JdT.1 6
def JQ8:IC:=pk JdT.1 7
def JQ9:IC:=pk JdT.1 8
def JRa:IC:=pk JdT.1 9
def JRb:IFn:=⟨2,(.seq JQ1 (.seq JQ2 (.seq (.seq JQ3 (.block 0 (.loop [2,4,6,9,10,11] (.seq JQ4 (.seq (.cond (.tmp 12) (.skip) (.exit 0)) (.seq (.block 1 (.seq JQ5 (.seq JQ6 (.seq JQ7 JQ8)))) JQ9)))))) (.seq JRa .ret)))),[.cell 4 (some 6),.tmp 5]⟩
theorem J4q:JK Tryz.prog Tryz.f179 JRb=true:=Ae
def Jc0:{l:List IC // Tr.fn Tr.TU Tryz.f120 0 [[2,3,4],[3,4,5,6],[3,4,5],[3,4,5],[3,4,5,22],[4],[3,4,5],[3,4],[3,4,41],[3,4],[4]]=l}:=⟨_,AO⟩
def JvC:IC:=pk Jc0.1 0
def JRc:IC:=pk Jc0.1 1
def JRd:IC:=pk Jc0.1 2
def JRe:IC:=pk Jc0.1 3
def JRf:IC:=pk Jc0.1 4
def JRg:IC:=pk Jc0.1 5
def JRh:IC:=pk Jc0.1 6
def JRi:IC:=pk Jc0.1 7
def JRj:IC:=pk Jc0.1 8
def JRk:IC:=pk Jc0.1 9
def JC4:IC:=pk Jc0.1 10
def JRl:IFn:=⟨2,(.seq JvC (.seq JRc (.seq JRd (.seq JRe (.seq (.seq JRf (.cond (.tmp 22) (.seq JRg .ret) (.skip))) (.seq JRh (.seq JRi (.seq (.seq JRj (.cond (.tmp 41) JRk (.skip))) (.seq JC4 .ret))))))))),[.cell 4 (some 11)]⟩
theorem J4r:JK Tryz.prog Tryz.f120 JRl=true:=Ae
def X0:{l:List IC // Tr.fn Tr.TU Tryz.f119 0 [[0,4,5,6],[0,4,5,6,7,8],[0,4,5,6,7],[0,4,5,6,7,9],[0,4,5,6,7,9,33,34,35],[0,4,5,6,7,9,33,34,35,36],[0,4,5,6,7,9,11,33,34,35],[0,4,5,6,7,9,33,34,35],[0,4,5,6,7,9,33,34,35],[0,4,5,6,7,9],[0,4,5,6,7,9,12],[0,4,5,6,7,67],[0,4,5,6,7],[0,4,5,6,7,14],[0,4,5,6,7,14,15],[0,4,5,6,7,14,15,73,74,75],[0,4,5,6,7,14,15,73,74,75,76],[0,4,5,6,7,14,15,17,73,74,75],[0,4,5,6,7,14,15,17,73,74,75,89],[0,4,5,6,7,14,15,73,74,75],[0,4,5,6,7,14,15,17,18,19,20,73,74,75],[0,4,5,6,7,14,15,17,18,73,74,75,119],[0,4,5,6,7,14,15,17,18,73,74,75],[0,4,5,6,7,14,15,17,18,73,74,75],[0,4,5,6,7,14,15,17,18,21,73,74,75]]=l}:=⟨_,AO⟩
def JvD:IC:=pk X0.1 0
def JRm:IC:=pk X0.1 1
def JRn:IC:=pk X0.1 2
def JRo:IC:=pk X0.1 3
def JRp:IC:=pk X0.1 4
def JRq:IC:=pk X0.1 5
def JRr:IC:=pk X0.1 6
def JRs:IC:=pk X0.1 7
def JRt:IC:=pk X0.1 8
def JRu:IC:=pk X0.1 9
def JC5:IC:=pk X0.1 10
def JC6:IC:=pk X0.1 11
def JC7:IC:=pk X0.1 12
def JC8:IC:=pk X0.1 13
def JC9:IC:=pk X0.1 14
def JDa:IC:=pk X0.1 15
def Jrt:IC:=pk X0.1 16
def Jru:IC:=pk X0.1 17
def Jrv:IC:=pk X0.1 18
def Jrw:IC:=pk X0.1 19
def Jrx:IC:=pk X0.1 20
def Jry:IC:=pk X0.1 21
def Jrz:IC:=pk X0.1 22
def JrA:IC:=pk X0.1 23
def JrB:IC:=pk X0.1 24
def Jjq:{l:List IC // Tr.fn Tr.TU Tryz.f119 25 [[0,4,5,6,7,14,15,17,73,74,75],[0,4,5,6,7,14,15,73,74,75],[0,4,5,6,7,14,15,73,74,75],[4,5,6,14],[5,6,158],[5,6],[6]]=l}:=⟨_,AO⟩
def JrC:IC:=pk Jjq.1 0
def JrD:IC:=pk Jjq.1 1
def JrE:IC:=pk Jjq.1 2
def JrF:IC:=pk Jjq.1 3
def JrG:IC:=pk Jjq.1 4
def JrH:IC:=pk Jjq.1 5
def JrI:IC:=pk Jjq.1 6
def JRv:IFn:=⟨3,(.seq JvD (.seq JRm (.seq JRn (.seq JRo (.seq (.seq JRp (.block 0 (.loop [0,4,5,6,7,9,33,34,35] (.seq JRq (.seq (.cond (.tmp 36) (.skip) (.exit 0)) (.seq (.block 1 (.seq JRr JRs)) JRt)))))) (.seq JRu (.seq JC5 (.seq (.seq JC6 (.cond (.tmp 67) JC7 (.skip))) (.seq JC8 (.seq JC9 (.seq (.seq JDa (.block 2 (.loop [0,4,5,6,7,14,15,73,74,75] (.seq Jrt (.seq (.cond (.tmp 76) (.skip) (.exit 2)) (.seq (.block 3 (.seq Jru (.seq (.seq Jrv (.cond (.tmp 89) (.seq Jrw (.exit 3)) (.skip))) (.seq Jrx (.seq (.seq Jry (.cond (.tmp 119) Jrz (.skip))) (.seq JrA (.seq JrB (.seq JrC JrD)))))))) JrE)))))) (.seq JrF (.seq (.seq JrG (.cond (.tmp 158) JrH (.skip))) (.seq JrI .ret)))))))))))))),[.cell 6 (some 5)]⟩
theorem J4s:JK Tryz.prog Tryz.f119 JRv=true:=Ae
def YJ:{l:List IC // Tr.fn Tr.TU Tryz.f77 0 [[0,3,4],[0,3,4,5],[0,3,4,5,6],[0,3,4,5,6],[0,3,4,5,6,27,28,29],[0,3,4,5,6,27,28,29,30],[0,3,4,5,6,8,27,28,29],[0,3,4,5,6,8,27,28,29],[0,3,4,5,6,27,28,29],[0,3,4,5,6,27,28,29],[0,3,4,5,6,46,47,48],[0,3,4,5,6,46,47,48,49],[0,3,4,5,6,10,46,47,48],[0,3,4,5,6,46,47,48],[0,3,4,5,6,46,47,48],[0,3,4,5,6,69],[0,3,4,5,6,73],[0,3,4,5,6],[0,3,4,5,6,11,12],[0,3,4,5,6,90],[0,3,4,5,6],[0,3,4,5,6,95,96,97],[0,3,4,5,6,95,96,97,98],[0,3,4,5,6,14,95,96,97],[0,3,4,5,6,95,96,97],[0,3,4,5,6,95,96,97],[4,5,6,112,113,114],[4,5,6,112,113,114,115],[4,5,6,16,112,113,114],[4,5,6,112,113,114],[4,5,6,112,113,114],[4]]=l}:=⟨_,AO⟩
def JEp:IC:=pk YJ.1 0
def J0D:IC:=pk YJ.1 1
def J0E:IC:=pk YJ.1 2
def J0F:IC:=pk YJ.1 3
def J0G:IC:=pk YJ.1 4
def J0H:IC:=pk YJ.1 5
def J0I:IC:=pk YJ.1 6
def J0J:IC:=pk YJ.1 7
def J0K:IC:=pk YJ.1 8
def J0L:IC:=pk YJ.1 9
def JRw:IC:=pk YJ.1 10
def JRx:IC:=pk YJ.1 11
def JRy:IC:=pk YJ.1 12
def JRz:IC:=pk YJ.1 13
def JRA:IC:=pk YJ.1 14
def JRB:IC:=pk YJ.1 15
def JRC:IC:=pk YJ.1 16
def JRD:IC:=pk YJ.1 17
def JRE:IC:=pk YJ.1 18
def JRF:IC:=pk YJ.1 19
def JRG:IC:=pk YJ.1 20
def JRH:IC:=pk YJ.1 21
def JvE:IC:=pk YJ.1 22
def JvF:IC:=pk YJ.1 23
def JvG:IC:=pk YJ.1 24
def JvH:IC:=pk YJ.1 25
def JvI:IC:=pk YJ.1 26
def JvJ:IC:=pk YJ.1 27
def JvK:IC:=pk YJ.1 28
def JvL:IC:=pk YJ.1 29
def JvM:IC:=pk YJ.1 30
def JvN:IC:=pk YJ.1 31
def i77:IFn:=⟨2,(.seq JEp (.seq J0D (.seq J0E (.seq J0F (.seq (.seq J0G (.block 0 (.loop [0,3,4,5,6,27,28,29] (.seq J0H (.seq (.cond (.tmp 30) (.skip) (.exit 0)) (.seq (.block 1 (.seq J0I (.seq J0J J0K))) J0L)))))) (.seq (.seq JRw (.block 2 (.loop [0,3,4,5,6,46,47,48] (.seq JRx (.seq (.cond (.tmp 49) (.skip) (.exit 2)) (.seq (.block 3 (.seq JRy JRz)) JRA)))))) (.seq (.seq JRB (.cond (.tmp 69) (.seq (.seq JRC (.cond (.tmp 73) JRD (.skip))) (.seq JRE (.seq JRF (.cond (.tmp 90) JRG (.skip))))) (.skip))) (.seq (.seq JRH (.block 4 (.loop [0,3,4,5,6,95,96,97] (.seq JvE (.seq (.cond (.tmp 98) (.skip) (.exit 4)) (.seq (.block 5 (.seq JvF JvG)) JvH)))))) (.seq (.seq JvI (.block 6 (.loop [4,5,6,112,113,114] (.seq JvJ (.seq (.cond (.tmp 115) (.skip) (.exit 6)) (.seq (.block 7 (.seq JvK JvL)) JvM)))))) (.seq JvN .ret)))))))))),[.cell 4 (some 9)]⟩
theorem c77:JK Tryz.prog Tryz.f77 i77=true:=Ae
variable {pr:Jz} {F:Nat->Option IFn}
structure LibW(pr:Jz)(F:Nat->Option IFn):Prop extends LibN pr F where
 f45:QG pr F 45 i45
 f77:QG pr F 77 i77
 f78:QG pr F 78 i78
 f115:QG pr F 115 JQo
 f116:QG pr F 116 JOG
 f117:QG pr F 117 JOa
 f118:QG pr F 118 JOO
 f119:QG pr F 119 JRv
 f120:QG pr F 120 JRl
 f121:QG pr F 121 JQy
 f122:QG pr F 122 JOv
 f176:QG pr F 176 JOy
 f177:QG pr F 177 JOD
 f178:QG pr F 178 JOg
 f179:QG pr F 179 JRb
 f180:QG pr F 180 JPB
 f181:QG pr F 181 JPg
 f182:QG pr F 182 JOm
 f183:QG pr F 183 JQ0
 f184:QG pr F 184 JQJ
 f185:QG pr F 185 JOV
 f186:QG pr F 186 JPy
 f187:QG pr F 187 JQR
 f218:QG pr F 218 JOj
 f220:QG pr F 220 JPL
 f221:QG pr F 221 JPU
 f222:QG pr F 222 JP4
 f223:QG pr F 223 JQe
 f224:QG pr F 224 JOe
 f225:QG pr F 225 JO5
 f241:QG pr F 241 JPr
 f242:QG pr F 242 JOJ
def Qo(v:Loc):List AV:=.str v.name::(Jl v.typ++[.bool v.fixed])
def JC(nt:Nat)(r:Room):List AV:=[.ptr nt 0,.str r.this,Kp 8 (r.vars.map Qo),.bool r.pred,Kp 6 (Jo r.ret),.bool r.inNew]
theorem Jb4(v:Loc):Row 8 (Qo v):=by
 obtain⟨n,⟨k1,n1,u1,e1,p1,a1⟩,f⟩:=v;have h:=K9 (.mk k1 n1 u1 e1 p1 a1);refine⟨by simp[Qo,h.len],?_,?_⟩
 ·have:=h.can;simp only[Jh,Qo,Ap,An]at this |-;rw[this];rfl
 ·have:=h.clo;simp only[Qo,Jl,Aw,Au,Kl,J7,Kp]at this |-;first |rfl |simpa using this
theorem V7(L:LibW pr F)(k:Int):TxOk pr F 178 [.int .i64 k] (.agg (Jl (KL k))):=by have hm:=L.hm;refine TxOk.of hm ?_;intro H rw hH;have hR:Rx rw rw:=Rx.rfl;refine Jt hm L.f178.1 L.f178.2 rfl ?_;refine Kt hm ?_;unfold Jvh;show At pr F H.length (fin _ H.length _) _ _ _ _;refine Xj hm ?_;intro H1 hH1 hlen hlt;refine' JM;exact Ju (vs:=Jl (KL k)) hH1 rfl (K9 (KL k)) ⟨_,hR,rfl,rfl⟩
theorem JrJ(L:LibW pr F)(t:Ty):TxOk pr F 218 [.agg (Jl t)] (.agg (Jl (VD t))):=by have hm:=L.hm;obtain⟨k,n,nl,e,p,a⟩:=t;refine TxOk.of hm ?_;intro H rw hH;have hR:Rx rw rw:=Rx.rfl;refine Jt hm L.f218.1 L.f218.2 rfl ?_;refine Kt hm ?_;unfold Jvj;show At pr F H.length (fin _ H.length _) _ _ _ _;refine Ku hm ?_;intro H1 hH1 hlen hlt;refine' JM;refine Kj (q:=H.length) rfl rfl (Kh hlt) ?_;refine' JM;have hr:=K9 (VD (.mk k n nl e p a));change fin [RVar.cell 2 (some 6)] H.length _ Ex.ret _ ⟨hp H1 H.length (.cells (Jh (Jl (VD (.mk k n nl e p a))))) _,rw⟩;rw[hr.can];exact Ju hH1 rfl hr ⟨_,hR,rfl,rfl⟩
theorem Zp(L:LibW pr F)(x:Xp):TxOk pr F 45 [.agg (Jb x)] (.agg (Jl (Q4 x))):=by
 have hm:=L.hm;obtain⟨op,n,l,ty,a⟩:=x;refine TxOk.of hm ?_;intro H rw hH;have hR:Rx rw rw:=Rx.rfl;refine Jt hm L.f45.1 L.f45.2 rfl ?_;refine Kt hm ?_;unfold JEn;show At pr F H.length (fin _ H.length _) _ _ _ _;refine Ku hm ?_;intro H1 hH1 hlen hlt;have hr:=K9 (Q4 (.mk op n l ty a));simp only[Q4]at hr |-;cases ty with
 | nil=>
  refine' JM;refine Kj (q:=H.length) rfl rfl (Kh hlt) ?_;refine' JM
  ·rw[if_pos Aa]at hr |-;exact Ju hH1 rfl hr ⟨_,hR,rfl,rfl⟩
  ·rw[if_neg Aa]at hr |-;exact Ju hH1 rfl hr ⟨_,hR,rfl,rfl⟩
 | cons t ts=>
  have htr:(Jo (t::ts))[0]? = some (Jl t):=rfl;have hln:(Jo (t::ts)).length=(Jo ts).length+1:=rfl;refine' JM;refine Kj (q:=H.length) rfl rfl (Kh hlt) ?_;refine' JM
  ·rw[if_pos Aa]at hr |-;exact Ju hH1 rfl hr ⟨_,hR,rfl,rfl⟩
  ·rw[if_neg Aa]at hr |-;exact Ju hH1 rfl hr ⟨_,hR,rfl,rfl⟩
theorem YK(L:LibW pr F)(x:Xp)(t:Ty):TxOk pr F 182 [.agg (Jb x),.agg (Jl t)] (.agg (Jb (XC x t))):=by have hm:=L.hm;obtain⟨op,n,l,ty,a⟩:=x;have htb:=JrJ L t;refine TxOk.of hm ?_;intro H rw hH;have hR:Rx rw rw:=Rx.rfl;refine Jt hm L.f182.1 L.f182.2 rfl ?_;refine Kt hm ?_;unfold Jvl;show At pr F H.length (fin _ H.length _) _ _ _ _;refine Ku hm ?_;intro H1 hH1 hlen hlt;refine' JM;refine Kj (q:=H.length) rfl rfl (Kh hlt) ?_;refine' JM;have hr:=JG (XC (.mk op n l ty a) t);change fin [RVar.cell 4 (some 5)] H.length _ Ex.ret _ ⟨hp H1 H.length (.cells [.str op,.str n,canon1 (Kp 5 (Ja l)),.list 6 .dead [Jl (VD t)],.int .i64 a]) _,rwt⟩;rw[Jq];exact Ju hH1 rfl hr ⟨_,hR,rfl,rfl⟩
theorem Kr(L:LibW pr F)(c a:Int)(H:List Blk)(rw:List Nat):Det pr F 117 [.int .i64 c,.int .i64 a] ⟨H,rw⟩ (.panic (Xs (c,a))) ⟨H,rw⟩:=by
 have hm:=L.hm;suffices h:Wp pr F 117 [.int .i64 c,.int .i64 a] ⟨H,rw⟩ λr S'=>r=.panic (Xs (c,a))/\S'=⟨H,rw⟩ by obtain⟨r,S',hd,rfl,rfl⟩:=h.det hm;exact hd
 refine Jt hm L.f117.1 L.f117.2 rfl ?_;refine' VO;exact JEl (t:=143) (v:=.agg [.int .i64 c,.int .i64 a]) rfl rfl (JS (c:=(c,a)) (AI) ⟨rfl,rfl⟩)
theorem Jc1(L:LibW pr F){H:List Blk}{rw:List Nat}{n mb z zb:Nat}{tg tb:Tag}{cs:List Cls}{U:List (List Nat)}{o1 o2 o3 sl:AV}(T:TabU H n mb cs z tg zb tb U o1 o2 o3 sl){a b:Ty}(ha:Zm a)(hb:Zm b) :
  ∃ rw',Rx rw rw'/\Det pr F 122 [.ptr n 0,.agg (Jl a),.agg (Jl b)] ⟨H,rw⟩ (.ret (.bool (Vd cs U a b))) ⟨H,rw'⟩:=by
 have hm:=L.hm;suffices h:Wp pr F 122 [.ptr n 0,.agg (Jl a),.agg (Jl b)] ⟨H,rw⟩ λr S'=>∃ rw',Rx rw rw'/\r=.ret (.bool (Vd cs U a b))/\S'=⟨H,rw'⟩ by obtain⟨r,S',hd,rw',h1,rfl,rfl⟩:=h.det hm;exact⟨rw',h1,hd⟩
 have hlt:n<H.length:=(Ac.1 T.at_).1;have hR:Rx rw rw:=Rx.rfl;have hT:=λM=>T.keep (X6 T.at_ M);have hba:∀ t,Zm t->V6 t≠0->V6 t≠5->TxOk pr F 15 [.agg (Jl t)] (.str (QV t)):=by
  rintro t ⟨h1 |rfl |rfl,h2⟩ h3 h4
  ·exact Je9 L.toLibE h2 (.inl h1)
  ·exact absurd rfl h3
  ·exact absurd rfl h4
 have hba1:=hba a ha;have hbb1:=hba b hb;obtain⟨k1,n1,u1,e1,p1,a1⟩:=a;obtain⟨k2,n2,u2,e2,p2,a2⟩:=b;simp only[V6]at hba1 hbb1;refine Kw hm L.f122.1 L.f122.2 rfl (Xi T.at_) ?_;have hfin:∀(v:Bool) (e:KC) (J:List Blk) (rw':List Nat),Jj e 6=some (.bool v)->Rx rw rw'->v=Vd cs U (.mk k1 n1 u1 e1 p1 a1) (.mk k2 n2 u2 e2 p2 a2)->fin [RVar.tmp 6] H.length (λr S'=>∃ rw',Rx rw rw'/\r=.ret (.bool (Vd cs U (.mk k1 n1 u1 e1 p1 a1) (.mk k2 n2 u2 e2 p2 a2)))/\S'=⟨H,rw'⟩) .ret e ⟨hp H n (.cells [.list z tg (cs.map Jc),.map mb,.list zb tb (U.map Vl),o1,o2,o3,sl]) J,rw'⟩:=by rintro v e J rw' h1 h2 rfl;exact Js (by simp only[QT,h1]) rfl (JR hlt) ⟨_,h2,rfl,QP T.at_⟩
 by_cases c1:k1=5
 ·subst c1;by_cases c2:k2=3
  ·subst c2;refine' JM;exact hfin _ _ _ _ rfl hR rfl
  ·by_cases c3:k2=4
   ·subst c3;refine' JM;exact hfin _ _ _ _ rfl hR rfl
   ·refine' JM;exact hfin _ _ _ _ rfl hR (by simp[Vd,V6,c2,c3])
 ·by_cases c2:k1=3/\k2=3
  ·obtain⟨rfl,rfl⟩:=c2;refine' JM;obtain⟨rw2,hR2,hd⟩:=JkB L.toLibG (hT _) n1 n2 (rw:=rw);refine Je rfl rfl rfl ?_;refine Ks hd ?_;refine JQ ?_;refine' JM;exact hfin _ _ _ _ rfl hR2 rfl
  ·have d1:¬V6 (.mk k1 n1 u1 e1 p1 a1)=5:=c1;have d2:¬(V6 (.mk k1 n1 u1 e1 p1 a1)=3/\V6 (.mk k2 n2 u2 e2 p2 a2)=3):=c2;by_cases c3:k1=0\/k2=0
   ·have d3:V6 (.mk k1 n1 u1 e1 p1 a1)=0\/V6 (.mk k2 n2 u2 e2 p2 a2)=0:=c3;have hf:Vd cs U (.mk k1 n1 u1 e1 p1 a1) (.mk k2 n2 u2 e2 p2 a2)=false:=by unfold Vd;rw[if_neg d1,if_neg d2,if_pos d3]
    refine' JM;all_goals exact hfin _ _ _ _ rfl hR hf.symm
   ·have d3:¬(V6 (.mk k1 n1 u1 e1 p1 a1)=0\/V6 (.mk k2 n2 u2 e2 p2 a2)=0):=c3;have hf:Vd cs U (.mk k1 n1 u1 e1 p1 a1) (.mk k2 n2 u2 e2 p2 a2)=(k1 == k2 && QV (.mk k1 n1 u1 e1 p1 a1) == QV (.mk k2 n2 u2 e2 p2 a2)):=by unfold Vd;rw[if_neg d1,if_neg d2,if_neg d3];rfl
    have k10:k1≠0:=λh=>c3 (.inl h);have k20:k2≠0:=λh=>c3 (.inr h);by_cases c4:k1=k2
    ·subst c4;have hb1:=hba1 k10 c1;have hb2:=hbb1 k10 c1;have c5:¬k1=3:=λh=>c2 ⟨h,h⟩;refine' JM;all_goals
      refine hfin _ _ _ _ rfl hR ?_;rw[hf];simp only[beq_self_eq_true,BW];symm;first
       | exact beq_iff_eq.2 Aa
       | exact beq_eq_false_iff_ne.2 Aa
    ·have hf':Vd cs U (.mk k1 n1 u1 e1 p1 a1) (.mk k2 n2 u2 e2 p2 a2)=false:=by rw[hf];simp[c4]
     refine' JM;all_goals exact hfin _ _ _ _ rfl hR hf'.symm
theorem Xd(nt:Nat)(r:Room):Jh (JC nt r)=JC nt r:=by simp only[Jh,JC,Ap,AC,Jq];rfl
theorem Jbt{nt n0:Nat}(h:nt<n0)(r:Room):Ai.belowL n0 (JC nt r)=true:=by
 simp only[JC,belowL,Ai.below,h,decide_true,BW,CI];have hl:∀ sz rows,Ai.below n0 (Kp sz rows)=true:=λsz rows=>by cases rows <;> rfl
 simp only[hl,A0]
theorem Jjr{H H1 M:List Blk}{rw:List Nat}{z:Blk}{vs:List AV}{t kd:Nat}{e:KC}{Q:Res->St->Prop}(hH:H1=H++[z])(he:Jj e t=some (.ptr H.length 0))(hl:vs.length=kd)(hc:Jh vs=vs)(hb:Ai.belowL H.length vs=true)(h:Q (.ret (.agg vs)) ⟨H,rw⟩) :
  fin [.cell t (some kd)] H.length Q .ret e ⟨hp H1 H.length (.cells vs) M,rw⟩:=by
 subst hH;have e2:QT [.cell t (some kd)] e (hp (H++[z]) H.length (.cells vs) M)=some [.agg vs]:=by have e1:(hp (H++[z]) H.length (.cells vs) M)[H.length]? = some (.cells vs):=Kh Ag;simp only[QT,he,J9,e1,AF];rw[if_pos O,AA,AB O,hc]
 exact Js e2 (by simpa only[Ai.below] using hb) JZ h
def Mid(rw0:List Nat)(sz:Nat)(rows:List (List AV))(v:AV)(rw:List Nat):Prop:=(rows=[]/\v=.list sz .full [])\/(rows≠[]/\∃ r,v=.list sz (.row r rows.length) rows/\rw0.length<=r/\rw[r]? = some rows.length)
theorem Mid.ext{rw0:List Nat}{sz:Nat}{rows:List (List AV)}{v:AV}{rw rw':List Nat}(h:Mid rw0 sz rows v rw)(hx:Rx rw rw'):Mid rw0 sz rows v rw':=by
 rcases h with h |⟨h0,r,h1,h2,h3⟩
 ·exact .inl h
 ·exact .inr ⟨h0,r,h1,h2,hx.get h3⟩
theorem JsP(sz:Nat)(tg:Tag)(rows:List (List AV))(row:List AV):canon1 (.list sz tg (rows++[row]))=Kp sz (rows++[row]):=by cases rows <;> cases tg <;> rfl
theorem J0M{K:AV->St->Prop}{sz by_:Nat}{rows:List (List AV)}{H:List Blk}{rw:List Nat}(hb:rows.length*by_<=Ji)(hl:rows.length<=Ji)(hs:0<sz)(hk:∀ v rw',Mid rw sz rows v rw'->Rx rw rw'->K v ⟨H,rw'⟩) :
  ApAt sz by_ (.list sz .full []) (Kp sz rows) ⟨H,rw⟩ K:=by
 cases rows with
 | nil=>exact⟨_,_,rfl,hk _ _ (.inl ⟨rfl,rfl⟩) Rx.rfl⟩
 | cons r rs=>refine⟨.list sz (.row rw.length (r::rs).length) (r::rs),⟨H,rw++[(r::rs).length]⟩,?_,hk _ _ (.inr ⟨Ag,rw.length,rfl,Ao _,Ag⟩) ((Rx.rfl).push _)⟩;simp only[Kp,QK,Af,AF,Au];rw[if_neg Ag,if_pos ⟨trivial,.inl trivial,hb,hl,hs⟩]
theorem J0N{K:AV->St->Prop}{rw0:List Nat}{sz by_:Nat}{rows:List (List AV)}{row:List AV}{v:AV}{H:List Blk}{rw:List Nat}(h:Mid rw0 sz rows v rw)(hx:Rx rw0 rw)(hb:(rows.length+1)*by_<=Ji)(hl:rows.length+1<=Ji)(hs:0<sz)(hk:∀ tg rw',Rx rw0 rw'->K (.list sz tg (rows++[row])) ⟨H,rw'⟩) :
  ApAt sz by_ v (.list sz .full [row]) ⟨H,rw⟩ K:=by
 rcases h with⟨rfl,rfl⟩ |⟨h0,r,rfl,h2,h1⟩
 ·refine⟨.list sz (.row rw.length 1) [row],⟨H,rw++[1]⟩,?_,hk _ _ (hx.push _)⟩;simp only[QK,Af,AF,Au,Ad];rw[if_neg Ag,if_pos ⟨trivial,.inl trivial,by simpa using hb,by simpa using hl,hs⟩]
 ·refine⟨.list sz (.row r (rows.length+1)) (rows++[row]),⟨H,rw.set r (rows.length+1)⟩,?_,hk _ _ (hx.set h2 _)⟩;simp only[QK,Ad,Af,AF];rw[if_neg Ag,if_pos ⟨trivial,.inr trivial,hb,hl,hs⟩,if_pos ⟨trivial,h1⟩]
theorem Jc2(L:LibW pr F){H:List Blk}{nt:Nat}(hnt:nt<H.length)(rw:List Nat)(r:Room)(n:Jk)(t:Ty)(f:Bool)(hv:r.vars.length<=100000000) :
  ∃ rw',Rx rw rw'/\Det pr F 176 [.agg (JC nt r),.str n,.agg (Jl t),.bool f] ⟨H,rw⟩ (.ret (.agg (JC nt (Vz r n t f)))) ⟨H,rw'⟩:=by
 have hm:=L.hm;suffices h:Wp pr F 176 [.agg (JC nt r),.str n,.agg (Jl t),.bool f] ⟨H,rw⟩ λr' S'=>∃ rw',Rx rw rw'/\r'=.ret (.agg (JC nt (Vz r n t f)))/\S'=⟨H,rw'⟩ by obtain⟨r',S',hd,rw',h1,rfl,rfl⟩:=h.det hm;exact⟨rw',h1,hd⟩
 have htb:=JrJ L t;have hlc:(r.vars.map Qo).length=r.vars.length:=Ak _;obtain⟨k1,n1,u1,e1,p1,a1⟩:=t;have hR:Rx rw rw:=Rx.rfl;refine Jt hm L.f176.1 L.f176.2 rfl ?_;refine Kt hm ?_;unfold Jvn;show At pr F H.length (fin _ H.length _) _ _ _ _;refine Ku hm ?_;intro H1 hH1 hlen hlt;refine' JM;refine Kj (q:=H.length) rfl rfl (Kh hlt) ?_;refine' JM;refine JT ?_;refine JW rfl rfl rfl ?_;refine J0M AH AH O ?_;intro v1 rw1 hv1 hR1;replace hR:=hR1;refine JQ ?_;refine' JM;have hv2:=hv1.ext hRt;refine Qp ?_;refine Q1 rfl (vs:=[.agg (Qo ⟨n,VD (.mk k1 n1 u1 e1 p1 a1),f⟩)]) rfl ?_;refine Z2 (Jb4 _) ?_;refine' JM;refine JT ?_;refine JW rfl rfl rfl ?_;refine J0N hv2 hR AH AH O ?_;intro tg rw3 hR3;refine JQ ?_;refine' JM;have hc:Jh [.ptr nt 0,.str r.this,.list 8 tg (r.vars.map Qo++[Qo ⟨n,VD (.mk k1 n1 u1 e1 p1 a1),f⟩]),.bool r.pred,Kp 6 (Jo r.ret),.bool r.inNew]=JC nt (Vz r n (.mk k1 n1 u1 e1 p1 a1) f):=by simp only[Jh,Ap,AC,Jq,JsP,JC,Vz,An];rfl
 change fin [RVar.cell 8 (some 6)] H.length _ Ex.ret _ ⟨hp H1 H.length (.cells (Jh [.ptr nt 0,.str r.this,.list 8 tg (r.vars.map Qo++[Qo ⟨n,VD (.mk k1 n1 u1 e1 p1 a1),f⟩]),.bool r.pred,Kp 6 (Jo r.ret),.bool r.inNew])) _,rw3⟩;rw[hc];exact Jjr hH1 rfl rfl (Xd _ _) (Jbt hnt _) ⟨_,hR3,rfl,rfl⟩
theorem Jej(l:List Loc):(l.map Qo).length=l.length:=Ak _
theorem Jf8{cs:List Cls}{U:List (List Nat)}:∀{l:List Xp} {ps:List Par},KS cs U l ps=true->l.length=ps.length
 | [],[],_=>rfl
 | [],_::_,h=>by simp[KS]at h
 | _::_,[],h=>by simp[KS]at h
 | x::l,p::ps,h=>by simp only[KS,Ah]at h;simp only[Ad,Jf8 h.2]
theorem JpY{cs:List Cls}{U:List (List Nat)}{l:List Xp}{ps:List Par}{q:Nat}{x:Xp}{p:Par}(h:l[q]? = some x)(h2:ps[q]? = some p):KS cs U (l.drop q) (ps.drop q)=(Vd cs U (Q4 x) p.type && KS cs U (l.drop (q+1)) (ps.drop (q+1))):=by obtain⟨hl,he⟩:=Ac.1 h;obtain⟨hl2,he2⟩:=Ac.1 h2;rw[AY hl,AY hl2,he,he2,KS]
def IsQ(sz:Nat)(v:AV)(rows:List (List AV)):Prop:=∃ z t,v=.list z t rows/\(rows≠[]->z=sz)
theorem IsL.q{sz:Nat}{v:AV}{rows:List (List AV)}(h:IsL sz v rows):IsQ sz v rows:=by obtain⟨z,t,h1,h2,-⟩:=h.ex;exact⟨z,t,h1,h2⟩
theorem Fp{Q:Prop}(h:Q:=by have h1:=T.at_;rw[e,hrb]at h1;simp[JC]at h1):Q:=h
theorem Fq{Q:Prop}(h:Q:=by rw[KB,Ax,hx];rfl):Q:=h
theorem Fs{Q:Prop}(h:Q:=by intro h;rw[h]at hxr;simp at hxr):Q:=h
theorem JsQ(L:LibW pr F){H:List Blk}{rw:List Nat}{rb n mb z zb:Nat}{tg tb:Tag}{cs:List Cls}{U:List (List Nat)}{o1 o2 o3 sl:AV}(T:TabU H n mb cs z tg zb tb U o1 o2 o3 sl){r:Room}(hrb:H[rb]? = some (.cells (JC n r))){v w:AV}{l:List Xp}{ps:List Par}(hv:IsQ 5 v (Ja l))(hw:IsL 8 w (ps.map Jf))(hl:∀ x∈l,Zm (Q4 x))(hps:∀ p∈ps,Zm p.type)(hll:l.length<=64800000) :
  ∃ rw',Rx rw rw'/\Det pr F 181 [.ptr rb 0,v,w] ⟨H,rw⟩ (.ret (.bool (KS cs U l ps))) ⟨H,rw'⟩:=by
 have hm:=L.hm;suffices h:Wp pr F 181 [.ptr rb 0,v,w] ⟨H,rw⟩ λr S'=>∃ rw',Rx rw rw'/\r=.ret (.bool (KS cs U l ps))/\S'=⟨H,rw'⟩ by obtain⟨r',S',hd,rw',h1,rfl,rfl⟩:=h.det hm;exact⟨rw',h1,hd⟩
 obtain⟨z1,t1,rfl,hz1⟩:=hv;obtain⟨z2,t2,rfl,hz2,-⟩:=hw.ex;have hlt:n<H.length:=(Ac.1 T.at_).1;have hne:n≠rb:=λe=>Fp
 have hFb:=ZG hne hrb;have hT:=λM=>T.keep (X6 T.at_ M);have hR:Rx rw rw:=Rx.rfl;have hel:=JV l;have hpl:(ps.map Jf).length=ps.length:=Ak _;refine Kw hm L.f181.1 L.f181.2 rfl (Xi T.at_) ?_;by_cases hlp:l.length=ps.length
 ·refine' JM;refine JB hm (λmm e S'=>∃(q:Nat) (J:List Blk) (rw3:List Nat),S'=⟨hp H n (.cells [.list z tg (cs.map Jc),.map mb,.list zb tb (U.map Vl),o1,o2,o3,sl]) J,rw3⟩/\q<=l.length/\KS cs U l ps=KS cs U (l.drop q) (ps.drop q)/\Rx rw rw3/\mm=l.length-q /\
   e=[(0,.ptr rb 0),(2,.list z2 t2 (ps.map Jf)),(14,.list z1 t1 (Ja l)),(15,.int .i64 ((Ja l).length:Int)),(16,.int .i64 q)]) ?_ (m:=l.length) ⟨0,[],_,rfl,O,rfl,hR,rfl,rfl⟩
  clear hR;rintro mm e S' ⟨q,J,rw3,rfl,hq0,hod,hR,rfl,rfl⟩;by_cases hq:q<l.length
  ·obtain⟨x,hx⟩:∃ x,l[q]? = some x:=⟨_,Ab hq⟩
   obtain⟨p,hpq⟩:∃ p,ps[q]? = some p:=⟨_,Ab O⟩
   have hxr:(Ja l)[q]? = some (Jb x):=Fq
   have hpr:(ps.map Jf)[q]? = some (Jf p):=by rw[Ax,hpq];rfl
   have hz5:z1=5:=hz1 Fs;have hz8:z2=8:=hz2 (by intro h;rw[h]at hpr;simp at hpr);subst hz5 hz8;have hof:=Zp L x;rw[JpY hx hpq]at hod;have hX:=hl x (Aq hx);have hP:=hps p (Aq hpq);obtain⟨pn,⟨k1,n1,u1,e1,p1,a1⟩,pa⟩:=p;refine' JM;obtain⟨rw4,hR4,hd⟩:=Jc1 L (hT (J++[.cells (Jb x)])) hX hP (rw:=rwt);refine Je rfl rfl rfl ?_;refine Ks hd ?_;replace hR:=hR.trans hR4;clear hd;refine JQ ?_;cases hf:Vd cs U (Q4 x) (.mk k1 n1 u1 e1 p1 a1)with
   | true=>simp only[hf,BW]at hod;refine' JM;exact⟨l.length-(q+1),O,q+1,_,rw4,rfl,O,hod,hR,rfl,rfl⟩
   | false=>simp only[hf,CZ]at hod;refine' JM;exact Js rfl rfl (JR hlt) ⟨_,hR,by rw[hod],QP T.at_⟩
  ·refine' JM;rw[AU O,AU O]at hod;exact Js rfl rfl (JR hlt) ⟨_,hR,EV,QP T.at_⟩
 ·refine' JM;have hf:KS cs U l ps=false:=by
   cases ht:KS cs U l ps with
   | false=>rfl
   | true=>exact absurd (Jf8 ht) hlp
  exact Js rfl rfl (JR hlt) ⟨_,hR,by rw[hf],QP T.at_⟩
theorem JpZ{n:Jk}{l:List Loc}{q:Nat}{v:Loc}(h:l[q]? = some v):ZS n (l.take (q+1))=if v.name=n then some v else ZS n (l.take q):=by
 obtain⟨hl,he⟩:=Ac.1 h;rw[CD hl,he,ZS,List.reverse_append,List.reverse_cons,List.reverse_nil,Au,List.singleton_append,List.find?_cons];by_cases hn:v.name=n
 ·simp[hn]
 ·rw[if_neg hn,beq_eq_false_iff_ne.2 hn];rfl
def JjY:Loc:=⟨[],KL 0,false⟩
def Jc3:Option Loc->AV
 | some v=>.tup [.agg (Qo v),.bool true]
 | none=>.tup [.agg (Qo JjY),.bool false]
theorem Jjs(L:LibW pr F){H:List Blk}{rw:List Nat}{rb nt:Nat}{r:Room}(hrb:H[rb]? = some (.cells (JC nt r)))(n:Jk)(hll:r.vars.length<=100000000) :
  ∃ rw',Rx rw rw'/\Det pr F 185 [.ptr rb 0,.str n] ⟨H,rw⟩ (.ret (Jc3 (ZS n r.vars))) ⟨H,rw'⟩:=by
 have hm:=L.hm;suffices h:Wp pr F 185 [.ptr rb 0,.str n] ⟨H,rw⟩ λr' S'=>∃ rw',Rx rw rw'/\r'=.ret (Jc3 (ZS n r.vars))/\S'=⟨H,rw'⟩ by obtain⟨r',S',hd,rw',h1,rfl,rfl⟩:=h.det hm;exact⟨rw',h1,hd⟩
 have hR:Rx rw rw:=Rx.rfl;have hlc:=Jej r.vars;refine Jt hm L.f185.1 L.f185.2 rfl ?_;refine Kt hm ?_;unfold Jvs;show At pr F H.length (fin _ H.length _) _ _ _ _;refine Xj hm ?_;intro H1 hH1 hlen hlt;have hFb:=J1 hH1 hrb;refine' JM;refine JB hm (λmm e S'=>∃(q:Nat) (J:List Blk),S'=⟨hp H1 H.length (.cells (Qo JjY)) J,rw⟩/\q<=r.vars.length/\ZS n r.vars=ZS n (r.vars.take q)/\mm=q /\
  e=[(0,.ptr rb 0),(1,.str n),(4,.ptr H.length 0),(6,.int .i64 ((q:Int)-1))]) ?_ (m:=r.vars.length) ⟨r.vars.length,[],rfl,Ao _,by rw[AI],rfl,?_⟩
 rotate_left
 ·rw[hlc];rfl
 rintro q e S' ⟨_,J,rfl,hq0,hod,rfl,rfl⟩;by_cases hq:q=0
 ·subst hq;refine' JM;exact VV (vs:=Qo JjY) hH1 rfl rfl (Jb4 JjY) ⟨_,hR,EV,rfl⟩
 ·obtain⟨q,rfl⟩:∃ k,q=k+1:=⟨q-1,O⟩
  obtain⟨v,hv⟩:∃ v,r.vars[q]? = some v:=⟨_,Ab O⟩
  have hvr:(r.vars.map Qo)[q]? = some (Qo v):=by rw[Ax,hv];rfl
  have hl8:Kp 8 (r.vars.map Qo)=.list 8 .dead (r.vars.map Qo):=Kf (i:=q) O;rw[JpZ hv]at hod;have hqi:((q+1:Nat):Int)-1=q:=O;rw[hqi];have hrl:=Jb4 v;obtain⟨vn,⟨k1,n1,u1,e1,p1,a1⟩,vf⟩:=v;refine' JM;rw[hl8];refine' JM
  ·rw[hl8];refine' JM;exact VV hH1 rfl rfl hrl ⟨_,hR,by rw[hod,if_pos Aa];rfl,rfl⟩
  ·rw[if_neg Aa]at hod;exact⟨q,O,q,_,rfl,O,hod,rfl,rfl⟩
theorem Jp0{l:List Loc}{q:Nat}{v:Loc}(h:l[q]? = some v):(l.take (q+1)).filter (·.fixed)=(l.take q).filter (·.fixed)++(if v.fixed then [v] else []):=by obtain⟨hl,he⟩:=Ac.1 h;rw[CD hl,he,CX];by_cases hf:v.fixed <;> simp[hf]
theorem Ft{Q:Prop}(h:Q:=by first |rfl |(rw[hl8];rfl)):Q:=h
theorem JvO(L:LibW pr F){H:List Blk}{nt:Nat}(hnt:nt<H.length)(rw:List Nat)(r:Room)(hll:r.vars.length<=100000000) :
  ∃ rw',Rx rw rw'/\Det pr F 225 [.agg (JC nt r)] ⟨H,rw⟩ (.ret (.agg (JC nt (K6 r)))) ⟨H,rw'⟩:=by
 have hm:=L.hm;suffices h:Wp pr F 225 [.agg (JC nt r)] ⟨H,rw⟩ λr' S'=>∃ rw',Rx rw rw'/\r'=.ret (.agg (JC nt (K6 r)))/\S'=⟨H,rw'⟩ by obtain⟨r',S',hd,rw',h1,rfl,rfl⟩:=h.det hm;exact⟨rw',h1,hd⟩
 have hR:Rx rw rw:=Rx.rfl;have hlc:=Jej r.vars;refine Jt hm L.f225.1 L.f225.2 rfl ?_;refine Kt hm ?_;unfold Jvt;show At pr F H.length (fin _ H.length _) _ _ _ _;refine Ku hm ?_;intro H1 hH1 hlen hlt;refine' JM;refine Kj (q:=H.length) rfl rfl (Kh hlt) ?_;refine' JM;refine JB hm (λmm e S'=>∃(q:Nat) (J:List Blk) (lv:AV) (rw3:List Nat),S'=⟨hp H1 H.length (.cells [.nilp,.str [],.list 0 .full [],.bool false,.list 0 .full [],.bool false]) (.cells (JC nt r)::J),rw3⟩/\q<=r.vars.length/\Lst rw 8 lv (((r.vars.take q).filter (·.fixed)).map Qo) rw3/\Rx rw rw3/\mm=r.vars.length-q /\
  e=[(1,.ptr (H1.length+0) 0),(2,.ptr H.length 0),(3,lv),(7,Kp 8 (r.vars.map Qo)),(8,.int .i64 ((r.vars.map Qo).length:Int)),(9,.int .i64 q)]) ?_ (m:=r.vars.length) ⟨0,[],_,rw,rfl,O,Lst.nil,hR,rfl,rfl⟩
 clear hR;rintro mm e S' ⟨q,J,lv,rw3,rfl,hq0,hl,hR,rfl,rfl⟩;have hfl:((r.vars.take q).filter (·.fixed)).length<=q:=BX (Cj _ _) EW;have hfm:=Jej ((r.vars.take q).filter (·.fixed));by_cases hq:q<r.vars.length
 ·obtain⟨v,hv⟩:∃ v,r.vars[q]? = some v:=⟨_,Ab hq⟩
  have hvr:(r.vars.map Qo)[q]? = some (Qo v):=by rw[Ax,hv];rfl
  have hl8:Kp 8 (r.vars.map Qo)=.list 8 .dead (r.vars.map Qo):=Kf (i:=q) O;have htk:=Jp0 hv;have hrl:=Jb4 v;rw[hl8];obtain⟨vn,⟨k1,n1,u1,e1,p1,a1⟩,vf⟩:=v;cases vf with
  | true=>refine' JM;refine JT ?_;refine JW rfl rfl rfl ?_;refine QB hl hR AH AH O ?_;intro l4 rw4 hl4 hR4;refine JQ ?_;refine' JM;exact⟨r.vars.length-(q+1),O,q+1,_,l4,rw4,rfl,O,by rw[htk,An];exact hl4,hR4,rfl,Ft⟩
  | false=>refine' JM;exact⟨r.vars.length-(q+1),O,q+1,_,lv,rw3,rfl,O,by rw[htk];simpa using hl,hR,rfl,Ft⟩
 ·rw[AB O]at hl;have hcn:=hl.isL.canon;obtain⟨s4,t4,rfl,-,-⟩:=hl.isL.ex;refine' JM;have hc:Jh [.ptr nt 0,.str r.this,.list s4 t4 ((r.vars.filter (·.fixed)).map Qo),.bool r.pred,Kp 6 (Jo r.ret),.bool r.inNew]=JC nt (K6 r):=by simp only[Jh,Ap,AC,Jq,hcn,JC,K6];rfl
  change fin [RVar.cell 2 (some 6)] H.length _ Ex.ret _ ⟨hp H1 H.length (.cells (Jh [.ptr nt 0,.str r.this,.list s4 t4 ((r.vars.filter (·.fixed)).map Qo),.bool r.pred,Kp 6 (Jo r.ret),.bool r.inNew])) _,rw3⟩;rw[hc];exact Jjr hH1 rfl rfl (Xd _ _) (Jbt hnt _) ⟨_,hR,rfl,rfl⟩
def JRI(f:Fld):AV:=.agg (Jn f)
theorem Jp1(L:LibW pr F){H:List Blk}{rw:List Nat}{rb n mb z zb:Nat}{tg tb:Tag}{cs:List Cls}{U:List (List Nat)}{o1 o2 o3 sl:AV}(T:TabU H n mb cs z tg zb tb U o1 o2 o3 sl){r:Room}(hrb:H[rb]? = some (.cells (JC n r)))(on:Xp)(nm:Jk)(a:Int) :
  ∃ rw',Rx rw rw'/\Det pr F 186 [.ptr rb 0,.agg (Jb on),.str nm,.int .i64 a] ⟨H,rw⟩ (KR JRI (XU cs on nm a)) ⟨H,rw'⟩:=by
 have hm:=L.hm;suffices h:Wp pr F 186 [.ptr rb 0,.agg (Jb on),.str nm,.int .i64 a] ⟨H,rw⟩ λr' S'=>∃ rw',Rx rw rw'/\r'=KR JRI (XU cs on nm a)/\S'=⟨H,rw'⟩ by obtain⟨r',S',hd,rw',h1,rfl,rfl⟩:=h.det hm;exact⟨rw',h1,hd⟩
 have hof:=Zp L on;have hk1:V6 (Q4 on)≠3->XU cs on nm a=Kz 131 a:=λh=>by unfold XU;rw[if_pos h]
 have hk2:V6 (Q4 on)=3->Zi cs nm (KZ cs (nmT (Q4 on)))=none->XU cs on nm a=Kz 130 a:=λh h2=>by unfold XU;rw[if_neg (λh3=>h3 h),h2]
 have hk3:∀ o f,V6 (Q4 on)=3->Zi cs nm (KZ cs (nmT (Q4 on)))=some (o,f)->XU cs on nm a=.ok f:=λo f h h2=>by unfold XU;rw[if_neg (λh3=>h3 h),h2]
 generalize XU cs on nm a=res at *;generalize Q4 on=t at *;obtain⟨k1,n1,u1,e1,p1,a1⟩:=t;have hR:Rx rw rw:=Rx.rfl;refine Jt hm L.f186.1 L.f186.2 rfl ?_;refine Kt hm ?_;unfold Jvu;show At pr F H.length (fin _ H.length _) _ _ _ _;refine Ku hm ?_;intro H1 hH1 hlen hlt;have hFb:=J1 hH1 hrb;refine' JM;refine Kj (q:=H.length) rfl rfl (Kh hlt) ?_;by_cases hk:k1=3
 ·subst hk;refine' JM;obtain⟨rw4,hR4,hd⟩:=JfW L.toLibE (T.keep (JF hH1 (.cells (Jn JlV)) [.cells (Jb on),.cells (Jn JlV)])) n1 nm (rw:=rwt);refine Je rfl rfl rfl ?_;refine Ks hd ?_;clear hd;replace hR:=hR.trans hR4;cases hf:Zi cs nm (KZ cs n1)with
  | none=>rw[hk2 rfl hf];simp only[JbT,B4,BR,BU];refine JQ ?_;refine' JM;refine KV (Kr L _ _ _ _) rfl rfl rfl ?_;subst hH1;exact JS JZ ⟨_,hR,rfl,rfl⟩
  | some of=>obtain⟨o,f⟩:=of;rw[hk3 o f rfl hf];simp only[JbT,A9,Bc,Bj];obtain⟨fn,⟨k2,n2,u2,e2,p2,a2⟩,ff,fa⟩:=f;refine JQ ?_;refine' JM;exact Ju hH1 rfl (QE ⟨fn,.mk k2 n2 u2 e2 p2 a2,ff,fa⟩) ⟨_,hR,rfl,rfl⟩
 ·rw[hk1 hk];refine' JM;refine KV (Kr L _ _ _ _) rfl rfl rfl ?_;subst hH1;exact JS JZ ⟨_,hR,rfl,rfl⟩
theorem J0O{l:List AV}(h:l.length=9):∃ a b c d e f g i j,l=[a,b,c,d,e,f,g,i,j]:=by
 match l,h with
 | [a,b,c,d,e,f,g,i,j],_=>exact⟨a,b,c,d,e,f,g,i,j,rfl⟩
def Jjt:Ctr:=⟨[],false,[],[],0⟩
def Jek(o:Option Ctr):AV:=.tup [.agg (Jw (o.getD Jjt)),.bool o.isSome]
theorem Jp2(L:LibW pr F){H:List Blk}{rw:List Nat}{n mb z zb:Nat}{tg tb:Tag}{cs:List Cls}{U:List (List Nat)}{o1 o2 o3 sl:AV}(T:TabU H n mb cs z tg zb tb U o1 o2 o3 sl)(s:Jk) :
  ∃ rw',Rx rw rw'/\Det pr F 118 [.ptr n 0,.str s] ⟨H,rw⟩ (.ret (Jek (ZT cs s))) ⟨H,rw'⟩:=by
 have hm:=L.hm;suffices h:Wp pr F 118 [.ptr n 0,.str s] ⟨H,rw⟩ λr' S'=>∃ rw',Rx rw rw'/\r'=.ret (Jek (ZT cs s))/\S'=⟨H,rw'⟩ by obtain⟨r',S',hd,rw',h1,rfl,rfl⟩:=h.det hm;exact⟨rw',h1,hd⟩
 have hR:Rx rw rw:=Rx.rfl;refine Jt hm L.f118.1 L.f118.2 rfl ?_;refine Kt hm ?_;unfold Jvr;show At pr F H.length (fin _ H.length _) _ _ _ _;refine Ku hm ?_;intro H1 hH1 hlen hlt;refine' JM;refine Kj (q:=H.length) rfl rfl (Kh hlt) ?_;refine' JM;obtain⟨v,rw4,hv9,hvc,hR4,hd⟩:=JkG L.toLibG (T.keep (JF hH1 (.cells (Jw Jjt)) [.cells [.str [],.bool false,.str [],.list 0 .full [],.list 0 .full [],.list 0 .full [],.list 0 .full [],.list 0 .full [],.int .i64 0]])) s (rw:=rw);refine Je rfl rfl rfl ?_;refine Ks hd ?_;clear hd;replace hR:=hR.trans hR4;have hct:ZT cs s=match J6 cs s with
  | some i=>(cs[i]?).bind λc=>c.ctors.head?
  | none=>none:=rfl
 generalize ZT cs s=res at *;cases hp:J6 cs s with
 | none=>rw[hp]at hct;subst hct;simp only[BU];obtain⟨v1,v2,v3,v4,v5,v6,v7,v8,v9,rfl⟩:=J0O hv9.len;refine JQ ?_;refine' JM;exact VV hH1 rfl rfl (QL Jjt) ⟨_,hR,rfl,rfl⟩
 | some i=>
  obtain⟨c,hc,hcn⟩:=Xf hp;have:=hvc i c hp hc;subst this;rw[hp]at hct;simp only[hc,Co]at hct;simp only[Bj];obtain⟨c1,c2,c3,c4,c5,c6,ct,c8,c9⟩:=c;cases ct with
  | nil=>
   refine JQ ?_;refine' JM
   ·exact VV hH1 rfl rfl (QL Jjt) ⟨_,hR,by rw[hct];rfl,rfl⟩
   ·exact absurd rfl Aa
  | cons k ks=>
   have htr:((k::ks).map Jw)[0]? = some (Jw k):=rfl;have hln:((k::ks).map Jw).length=(ks.map Jw).length+1:=rfl;refine JQ ?_;refine' JM
   ·exact absurd Aa CR
   ·exact VV hH1 rfl rfl (QL k) ⟨_,hR,by rw[hct];rfl,rfl⟩
theorem Jod{α:Type}{f:α->Bool}{l:List α}{q:Nat}{x:α}(h:l[q]? = some x):(l.drop q).all f=(f x && (l.drop (q+1)).all f):=by obtain⟨hl,he⟩:=Ac.1 h;rw[AY hl,he,B1]
theorem Jp3{cs:List Cls}{U:List (List Nat)}{l ps:List Par}{q:Nat}{x p:Par}(h:l[q]? = some x)(h2:ps[q]? = some p):Jfg cs U (l.drop q) (ps.drop q)=(Vd cs U x.type p.type && Jfg cs U (l.drop (q+1)) (ps.drop (q+1))):=by obtain⟨hl,he⟩:=Ac.1 h;obtain⟨hl2,he2⟩:=Ac.1 h2;rw[AY hl,AY hl2,he,he2,Jfg]
theorem JvP(L:LibW pr F){H:List Blk}{rw:List Nat}{rb n mb z zb:Nat}{tg tb:Tag}{cs:List Cls}{U:List (List Nat)}{o1 o2 o3 sl:AV}(T:TabU H n mb cs z tg zb tb U o1 o2 o3 sl){r:Room}(hrb:H[rb]? = some (.cells (JC n r))){v:AV}{l:List (Jk×Jk×Mth)}(hv:IsL 13 v (Ko l))(m:Jk×Jk×Mth)
  (hl:∀ o∈l,(∀ p∈o.2.2.params,Zm p.type)/\o.2.2.params.length=m.2.2.params.length) (hpm:∀ p∈m.2.2.params,Zm p.type) (hpl:m.2.2.params.length<=64800000) (hll:l.length<=64800000) :
  ∃ rw',Rx rw rw'/\Det pr F 241 [.ptr rb 0,.agg (KK m.1 m.2.1 m.2.2),v] ⟨H,rw⟩ (.ret (.bool (JcT cs U m.2.2 l))) ⟨H,rw'⟩:=by
 have hm:=L.hm;suffices h:Wp pr F 241 [.ptr rb 0,.agg (KK m.1 m.2.1 m.2.2),v] ⟨H,rw⟩ λr S'=>∃ rw',Rx rw rw'/\r=.ret (.bool (JcT cs U m.2.2 l))/\S'=⟨H,rw'⟩ by obtain⟨r',S',hd,rw',h1,rfl,rfl⟩:=h.det hm;exact⟨rw',h1,hd⟩
 obtain⟨z1,t1,rfl,hz1,-⟩:=hv.ex;have hlt:n<H.length:=(Ac.1 T.at_).1;have hne:n≠rb:=λe=>Fp
 have hFb:=ZG hne hrb;have hT:=λM=>T.keep (X6 T.at_ M);have hR:Rx rw rw:=Rx.rfl;have hel:=Vc l;obtain⟨m1,m2,mn,mp,⟨k1,n1,u1,e1,p1,a1⟩,bd,ab,at1⟩:=m;simp only at *;refine Kw hm L.f241.1 L.f241.2 rfl (Xi T.at_) ?_;refine' JM;have hbd:JcT cs U ⟨mn,mp,.mk k1 n1 u1 e1 p1 a1,bd,ab,at1⟩ l=l.all λo=>Jfg cs U mp o.2.2.params:=rfl;generalize JcT cs U ⟨mn,mp,.mk k1 n1 u1 e1 p1 a1,bd,ab,at1⟩ l=res at *;refine JB hm (λmm e S'=>∃(q:Nat) (M:List Blk) (rw3:List Nat),S'=⟨hp H n (.cells [.list z tg (cs.map Jc),.map mb,.list zb tb (U.map Vl),o1,o2,o3,sl]) M,rw3⟩/\M[0]? = some (.cells (KK m1 m2 ⟨mn,mp,.mk k1 n1 u1 e1 p1 a1,bd,ab,at1⟩))/\q<=l.length/\res=((l.drop q).all λo=>Jfg cs U mp o.2.2.params)/\Rx rw rw3/\mm=l.length-q /\
   e=[(0,.ptr rb 0),(4,.ptr (H.length+0) 0),(11,.list z1 t1 (Ko l)),(12,.int .i64 ((Ko l).length:Int)),(13,.int .i64 q)]) ?_ (m:=l.length) ⟨0,_,_,rfl,rfl,O,hbd,hR,rfl,rfl⟩
 clear hR hbd;rintro mm e S' ⟨q,M,rw3,rfl,hM0,hq0,hod,hR,rfl,rfl⟩;by_cases hq:q<l.length
 ·obtain⟨x,hx⟩:∃ x,l[q]? = some x:=⟨_,Ab hq⟩
  have hxr:=ZR hx;have hz5:z1=13:=hz1 Fs;subst hz5;rw[Jod hx]at hod;obtain⟨hxp,hxl⟩:=hl x (Aq hx);obtain⟨x1,x2,xn,xp,⟨k2,n2,u2,e2,p2,a2⟩,bd2,ab2,at2⟩:=x;simp only at hxr hxp hxl hod;have hpm2:(mp.map Jf).length=mp.length:=Ak _;have hpx2:(xp.map Jf).length=xp.length:=Ak _;refine' JM;obtain⟨M2,hM2⟩:∃ M2,M2=M++[.cells (List.take 13 (KK x1 x2 ⟨xn,xp,.mk k2 n2 u2 e2 p2 a2,bd2,ab2,at2⟩))]:=⟨_,rfl⟩
  have hM3:M2[0]? = some (.cells (KK m1 m2 ⟨mn,mp,.mk k1 n1 u1 e1 p1 a1,bd,ab,at1⟩)):=by rw[hM2];exact Vj hM0
  have hM4:M2[M.length]? = some (.cells (KK x1 x2 ⟨xn,xp,.mk k2 n2 u2 e2 p2 a2,bd2,ab2,at2⟩)):=by rw[hM2];simp[KK,Jl,Jm]
  rw[<- hM2];clear hM2 hM0;generalize hres2:((l.drop (q+1)).all λo=>Jfg cs U mp o.2.2.params)=res2 at *;refine JB hm (λmm e S'=>∃(p:Nat) (M3:List Blk) (rw4:List Nat),S'=⟨hp H n (.cells [.list z tg (cs.map Jc),.map mb,.list zb tb (U.map Vl),o1,o2,o3,sl]) M3,rw4⟩/\M3[0]? = some (.cells (KK m1 m2 ⟨mn,mp,.mk k1 n1 u1 e1 p1 a1,bd,ab,at1⟩))/\M3[M.length]? = some (.cells (KK x1 x2 ⟨xn,xp,.mk k2 n2 u2 e2 p2 a2,bd2,ab2,at2⟩))/\p<=mp.length/\res=(Jfg cs U (mp.drop p) (xp.drop p) && res2)/\Rx rw rw4/\mm=mp.length-p /\
    e=[(0,.ptr rb 0),(4,.ptr (H.length+0) 0),(8,.ptr (H.length+M.length) 0),(11,.list 13 t1 (Ko l)),(12,.int .i64 ((Ko l).length:Int)),(13,.int .i64 q),(19,Kp 8 (mp.map Jf)),(20,.int .i64 ((mp.map Jf).length:Int)),(21,.int .i64 p)]) ?_ (m:=mp.length) ⟨0,_,_,rfl,hM3,hM4,O,hod,hR,rfl,rfl⟩
  clear hR hod hM3 hM4 M2;rintro mm e S' ⟨p,M3,rw4,rfl,hM3,hM4,hp0,hod,hR,rfl,rfl⟩;by_cases hpp:p<mp.length
  ·obtain⟨y,hy⟩:∃ x,mp[p]? = some x:=⟨_,Ab hpp⟩
   obtain⟨w,hw⟩:∃ x,xp[p]? = some x:=⟨_,Ab O⟩
   have hyr:(mp.map Jf)[p]? = some (Jf y):=by rw[Ax,hy];rfl
   have hwr:(xp.map Jf)[p]? = some (Jf w):=by rw[Ax,hw];rfl
   have hl8:Kp 8 (mp.map Jf)=.list 8 .dead (mp.map Jf):=Kf (i:=p) O;have hl9:Kp 8 ((⟨xn,xp,.mk k2 n2 u2 e2 p2 a2,bd2,ab2,at2⟩:Mth).params.map Jf)=.list 8 .dead (xp.map Jf):=Kf (rows:=xp.map Jf) (i:=p) O;rw[Jp3 hy hw]at hod;have hY:=hpm y (Aq hy);have hW:=hxp w (Aq hw);obtain⟨yn,⟨k3,n3,u3,e3,p3,a3⟩,ya⟩:=y;obtain⟨wn,⟨k4,n4,u4,e4,p4,a4⟩,wa⟩:=w;rw[hl8];refine' JM;rw[hl9];refine' JM;obtain⟨rw5,hR5,hd⟩:=Jc1 L (hT (M3++[.cells (Jf ⟨yn,.mk k3 n3 u3 e3 p3 a3,ya⟩)])) hY hW (rw:=rw4);refine Je rfl rfl rfl ?_;refine Ks hd ?_;replace hR:=hR.trans hR5;clear hd;refine JQ ?_;simp only at hod;cases hf:Vd cs U (.mk k3 n3 u3 e3 p3 a3) (.mk k4 n4 u4 e4 p4 a4)with
   | true=>simp only[hf,BW]at hod;refine' JM;exact⟨mp.length-(p+1),O,p+1,_,rw5,rfl,Vj hM3,Vj hM4,O,hod,hR,rfl,rfl⟩
   | false=>simp only[hf,CZ]at hod;refine' JM;exact Js rfl rfl (JR hlt) ⟨_,hR,by rw[hod],QP T.at_⟩
  ·refine' JM;rw[AU O]at hod;exact⟨l.length-(q+1),O,q+1,M3,rw4,rfl,hM3,O,by rw[hod,hres2];rfl,hR,rfl,rfl⟩
 ·refine' JM;rw[AU O]at hod;exact Js rfl rfl (JR hlt) ⟨_,hR,EV,QP T.at_⟩
theorem JvQ(L:LibW pr F){H:List Blk}{n:Nat}{b:Blk}(hn:H[n]? = some b)(rw:List Nat)(c a:Int):Det pr F 224 [.agg [.int .i64 c,.int .i64 a]] ⟨H,rw⟩ (KR (λ_=>.tup []) (Jab (c,a))) ⟨H,rw⟩:=by
 have hm:=L.hm;suffices h:Wp pr F 224 [.agg [.int .i64 c,.int .i64 a]] ⟨H,rw⟩ λr S'=>r=KR (λ_=>.tup []) (Jab (c,a))/\S'=⟨H,rw⟩ by obtain⟨r,S',hd,rfl,rfl⟩:=h.det hm;exact hd
 have hlt:n<H.length:=(Ac.1 hn).1;have hR:Rx rw rw:=Rx.rfl;refine Kw hm L.f224.1 L.f224.2 rfl (Xi hn) ?_;by_cases hc:c=0
 ·subst hc;refine' JM;exact Jak (JR hlt) ⟨rfl,QP hn⟩
 ·refine' JM;refine JEl (t:=143) (v:=.agg [.int .i64 c,.int .i64 a]) rfl rfl (JS (c:=(c,a)) (JR hlt) ⟨?_,QP hn⟩);unfold Jab;rw[if_neg hc];rfl
theorem JsR(L:LibW pr F){H:List Blk}{rw:List Nat}{rb n mb z zb:Nat}{tg tb:Tag}{cs:List Cls}{U:List (List Nat)}{o1 o2 o3 sl:AV}(T:TabU H n mb cs z tg zb tb U o1 o2 o3 sl){r:Room}(hrb:H[rb]? = some (.cells (JC n r))){a b:Ty}(ha:Zm a)(hb:Zm b) :
  ∃ rw',Rx rw rw'/\Det pr F 242 [.ptr rb 0,.agg (Jl a),.agg (Jl b)] ⟨H,rw⟩ (.ret (.bool (JcU cs U a b))) ⟨H,rw'⟩:=by
 have hm:=L.hm;suffices h:Wp pr F 242 [.ptr rb 0,.agg (Jl a),.agg (Jl b)] ⟨H,rw⟩ λr S'=>∃ rw',Rx rw rw'/\r=.ret (.bool (JcU cs U a b))/\S'=⟨H,rw'⟩ by obtain⟨r,S',hd,rw',h1,rfl,rfl⟩:=h.det hm;exact⟨rw',h1,hd⟩
 have hlt:n<H.length:=(Ac.1 T.at_).1;have hne:n≠rb:=λe=>Fp
 have hFb:=ZG hne hrb;have hT:=λM=>T.keep (X6 T.at_ M);have hR:Rx rw rw:=Rx.rfl;have hal:JcU cs U a b=(Vd cs U a b || Vd cs U b a ||(V6 a == 5 && V6 b == 5)):=rfl;generalize JcU cs U a b=res at *;refine Kw hm L.f242.1 L.f242.2 rfl (Xi T.at_) ?_;refine' JM;obtain⟨rw1,hR1,hd⟩:=Jc1 L (hT [.cells (Jl a),.cells (Jl b)]) ha hb (rw:=rw);refine Je rfl rfl rfl ?_;refine Ks hd ?_;replace hR:=hR.trans hR1;clear hd;refine JQ ?_;cases h1:Vd cs U a b with
 | true=>simp only[h1,Df]at hal;refine' JM;exact Js rfl rfl (JR hlt) ⟨_,hR,by rw[hal],QP T.at_⟩
 | false=>
  simp only[h1,B3]at hal;refine' JM;obtain⟨rw2,hR2,hd⟩:=Jc1 L (hT [.cells (Jl a),.cells (Jl b)]) hb ha (rw:=rw1);refine Je rfl rfl rfl ?_;refine Ks hd ?_;replace hR:=hR.trans hR2;clear hd;refine JQ ?_;cases h2:Vd cs U b a with
  | true=>simp only[h2,Df]at hal;refine' JM;exact Js rfl rfl (JR hlt) ⟨_,hR,by rw[hal],QP T.at_⟩
  | false=>
   simp only[h2,B3]at hal;obtain⟨k1,n1,u1,e1,p1,a1⟩:=a;obtain⟨k2,n2,u2,e2,p2,a2⟩:=b;simp only[V6]at hal;by_cases c1:k1=5
   ·subst c1;by_cases c2:k2=5
    ·subst c2;refine' JM;exact Js rfl rfl (JR hlt) ⟨_,hR,by rw[hal];rfl,QP T.at_⟩
    ·refine' JM;exact Js rfl rfl (JR hlt) ⟨_,hR,by rw[hal];simp[c2],QP T.at_⟩
   ·refine' JM;exact Js rfl rfl (JR hlt) ⟨_,hR,by rw[hal];simp[c1],QP T.at_⟩
theorem Kk{b0 base:Nat}{Q:Ex->KC->St->Prop}{k:List Fr}{e:KC}{S:St}{prev items:List Item}{kp:List Nat}{ix:Nat}{d:Option Nat}{g:Option (Nat×Bool)}{α:Type}{f:α->AV}{o:Except (Int×Int) α}{re:List Nat}{h:Opd}{as_:List Opd}{fn:Nat}{vs:List AV}{S':St}(hd:Det pr F fn vs S (KR f o) S')(hw:wanted g (Jj e)=some true)(hf:h.val (Jj e)=some (.func fn [] []))(ha:X9 as_ (Jj e)=some vs)
  (hx:∀ c,o=.error c->Q (.panic (Xs c)) e S') (ho:∀ x v,v=f x->o=.ok x->J8 prev re (KD e d v) S'.heap base=true/\In pr F b0 Q base (⟨ix,d,g,.l (.call h as_) re⟩::prev) items kp k (KD e d v) S') :
  In pr F b0 Q base prev (⟨ix,d,g,.l (.call h as_) re⟩::items) kp k e S:=JBC hd hw hf ha hx λx hc=>ho x _ rfl hc
def ExA(x:Xp):AV:=.agg (Jb x)
def TyA(x:Ty):AV:=.agg (Jl x)
def TbU(H:List Blk)(nt:Nat)(cs:List Cls)(U:List (List Nat)):Prop:=∃(mb z zb:Nat) (tg tb:Tag) (o1 o2 o3 sl:AV),TabU H nt mb cs z tg zb tb U o1 o2 o3 sl/\Kl [o1,o2,o3,sl]=true
theorem TbU.keep{H H':List Blk}{nt:Nat}{cs:List Cls}{U:List (List Nat)}(T:TbU H nt cs U)(h:JjU H H'):TbU H' nt cs U:=by obtain⟨mb,z,zb,tg,tb,o1,o2,o3,sl,h1,h2⟩:=T;exact⟨mb,z,zb,tg,tb,o1,o2,o3,sl,h1.keep h,h2⟩
theorem TbU.lt{H:List Blk}{nt:Nat}{cs:List Cls}{U:List (List Nat)}(T:TbU H nt cs U):nt<H.length:=by obtain⟨mb,z,zb,tg,tb,o1,o2,o3,sl,h1,h2⟩:=T;exact(Ac.1 h1.at_).1
theorem TbU.fits(L:LibW pr F){H:List Blk}{rw:List Nat}{nt:Nat}{cs:List Cls}{U:List (List Nat)}(T:TbU H nt cs U){a b:Ty}(ha:Zm a)(hb:Zm b) :
  ∃ rw',Rx rw rw'/\Det pr F 122 [.ptr nt 0,.agg (Jl a),.agg (Jl b)] ⟨H,rw⟩ (.ret (.bool (Vd cs U a b))) ⟨H,rw'⟩:=by
 obtain⟨mb,z,zb,tg,tb,o1,o2,o3,sl,h1,h2⟩:=T;exact Jc1 L h1 ha hb
def ExC(pr:Jz)(F:Nat->Option IFn)(cs:List Cls)(U:List (List Nat))(k:Nat):Prop:=∀(H:List Blk) (rw:List Nat) (rb nt:Nat) (r:Room) (x:Xp),TbU H nt cs U->H[rb]? = some (.cells (JC nt r))->RmOk r->r.vars.length+VY x<=100000000->VY x<=64800000->Q7 x->VY x<k ->
 ∃ rw',Rx rw rw'/\Det pr F 180 [.ptr rb 0,.agg (Jb x)] ⟨H,rw⟩ (KR ExA (exF cs U r x)) ⟨H,rw'⟩
theorem Joe(L:LibW pr F){cs:List Cls}{U:List (List Nat)}(C:Cst cs U){k:Nat}(hE:ExC pr F cs U k){H:List Blk}{rw:List Nat}{rb nt:Nat}{r:Room}{x:Xp}{t:Ty}(T:TbU H nt cs U)(hrb:H[rb]? = some (.cells (JC nt r)))(hr:RmOk r)(hv:r.vars.length+VY x<=100000000)(hv2:VY x<=64800000)(hx:Q7 x)(hk:VY x<k)(ht:Zm t) :
  ∃ rw',Rx rw rw'/\Det pr F 177 [.ptr rb 0,.agg (Jb x),.agg (Jl t)] ⟨H,rw⟩ (KR ExA (QQ cs U r x t)) ⟨H,rw'⟩:=by
 have hm:=L.hm;suffices h:Wp pr F 177 [.ptr rb 0,.agg (Jb x),.agg (Jl t)] ⟨H,rw⟩ λr' S'=>∃ rw',Rx rw rw'/\r'=KR ExA (QQ cs U r x t)/\S'=⟨H,rw'⟩ by obtain⟨r',S',hd,rw',h1,rfl,rfl⟩:=h.det hm;exact⟨rw',h1,hd⟩
 have hR:Rx rw rw:=Rx.rfl;refine Jt hm L.f177.1 L.f177.2 rfl ?_;refine Kt hm ?_;unfold Jvo;show At pr F H.length (fin _ H.length _) _ _ _ _;refine Ku hm ?_;intro H1 hH1 hlen hlt;have hFb:=J1 hH1 hrb;refine' JM;refine Kj (q:=H.length) rfl rfl (Kh hlt) ?_;refine' JM;obtain⟨rw1,hR1,hd⟩:=hE _ rw rb nt r x (T.keep (JF hH1 _ _)) (hFb _ _) hr hv hv2 hx hk;have hof:=λx'=>C.of (x':=x') hr hx hv2;have hmu:QQ cs U r x t=(exF cs U r x).bind λx'=>JcV cs U x' t (atX x):=rfl;generalize QQ cs U r x t=res at *;refine Kk hd rfl rfl rfl ?_ ?_
 ·intro c hc;rw[hc]at hmu;subst hH1;rw[hmu];exact JS JZ ⟨_,hR.trans hR1,rfl,rfl⟩
 intro x' v hvx hc;change v=.agg (Jb x')at hvx;subst hvx;rw[hc]at hmu;have hX:=hof x' hc;have hof:=Zp L x';clear hd;replace hR:=hR.trans hR1;refine JQ ?_;have hk1:Vd cs U (Q4 x') t=true->res=.ok x':=λh=>by rw[hmu];show JcV cs U x' t (atX x)=_;rw[JcV,if_pos h]
 have hk2:¬Vd cs U (Q4 x') t=true->res=Kz 131 (atX x):=λh=>by rw[hmu];show JcV cs U x' t (atX x)=_;rw[JcV,if_neg h]
 clear hmu;obtain⟨op,nm,l,ty,a⟩:=x;refine' JM;obtain⟨rw2,hR2,hd⟩:=TbU.fits L (T.keep (JF hH1 _ _)) hX ht (rw:=rwt);refine Je rfl rfl rfl ?_;refine Ks hd ?_;replace hR:=hR.trans hR2;clear hd;refine JQ ?_;cases hf:Vd cs U (Q4 x') t with
 | true=>rw[hk1 hf];refine' JM;exact Ju hH1 rfl (JG x') ⟨_,hR,rfl,rfl⟩
 | false=>rw[hk2 (by rw[hf];exact BO)];refine' JM;refine KV (Kr L _ _ _ _) rfl rfl rfl ?_;subst hH1;exact JS JZ ⟨_,hR,rfl,rfl⟩
theorem Jof(L:LibW pr F){cs:List Cls}{U:List (List Nat)}(C:Cst cs U){k:Nat}(hE:ExC pr F cs U k){H:List Blk}{rw:List Nat}{nt:Nat}{r:Room}{x:Xp}(T:TbU H nt cs U)(hr:RmOk r)(hv:r.vars.length+VY x<=100000000)(hv2:VY x<=64800000)(hx:Q7 x)(hk:VY x<k) :
  ∃ rw',Rx rw rw'/\Det pr F 116 [.agg (JC nt r),.agg (Jb x)] ⟨H,rw⟩ (KR ExA (JgW cs U r x)) ⟨H,rw'⟩:=by
 have hm:=L.hm;suffices h:Wp pr F 116 [.agg (JC nt r),.agg (Jb x)] ⟨H,rw⟩ λr' S'=>∃ rw',Rx rw rw'/\r'=KR ExA (JgW cs U r x)/\S'=⟨H,rw'⟩ by obtain⟨r',S',hd,rw',h1,rfl,rfl⟩:=h.det hm;exact⟨rw',h1,hd⟩
 have hR:Rx rw rw:=Rx.rfl;have htx:=V7 L 2;refine Jt hm L.f116.1 L.f116.2 rfl ?_;refine Kt hm ?_;unfold Jvq;show At pr F H.length (fin _ H.length _) _ _ _ _;refine Ku hm ?_;intro H1 hH1 hlen hlt;refine' JM;refine Kj (q:=H.length) rfl rfl (Kh hlt) ?_;refine' JM;change In pr F H.length _ _ _ _ _ _ _ ⟨hp H1 H.length _ [.cells (JC nt {r with pred:=true}),.cells (Jb x)],_⟩;obtain⟨rw2,hR2,hd⟩:=Joe L C hE (x:=x) (T.keep (JF hH1 _ _)) (H:=hp H1 H.length (.cells (Jb ex0)) [.cells (JC nt {r with pred:=true}),.cells (Jb x)]) (rw:=rwt) (Vq hlt 0) (Jrc hr true) hv hv2 hx hk Jed;have hmu:JgW cs U r x=QQ cs U {r with pred:=true} x (KL 2):=rfl;generalize JgW cs U r x=res at *;refine Kk hd rfl rfl rfl ?_ ?_
 ·intro c hc;rw[hc]at hmu;subst hH1;rw[hmu];exact JS JZ ⟨_,hR.trans hR2,rfl,rfl⟩
 intro x' v hvx hc;change v=.agg (Jb x')at hvx;subst hvx;rw[hc]at hmu;clear hd;replace hR:=hR.trans hR2;refine JQ ?_;rw[hmu];refine' JM;exact Ju hH1 rfl (JG x') ⟨_,hR,rfl,rfl⟩
theorem Jms{α β γ:Type}(x:Er α)(f:α->Er β)(g:β->Er γ):(x.bind f).bind g=x.bind λy=>(f y).bind g:=by cases x <;> rfl
theorem JkR{cs:List Cls}{U:List (List Nat)}{r:Room}:∀ l:List Xp,Jec cs U r l=Qg cs U r l
 | []=>by simp only[Jec,Qg]
 | x::l=>by simp only[Jec,Qg,JkR l,JgW,QQ,Jms]
theorem JvR{cs:List Cls}{U:List (List Nat)}{l:List Ty}{q:Nat}{t:Ty}(h:l[q]? = some t):YV cs U (l.drop q)=(tyF cs U Vy t).bind λt'=>(YV cs U (l.drop (q+1))).bind λl'=>.ok (t'::l'):=by obtain⟨hl,he⟩:=Ac.1 h;rw[AY hl,he,YV]
theorem Jel{cs:List Cls}{U:List (List Nat)}{r:Room}{l:List Xp}{q:Nat}{t:Xp}(h:l[q]? = some t):Qg cs U r (l.drop q)=(JgW cs U r t).bind λt'=>(Qg cs U r (l.drop (q+1))).bind λl'=>.ok (t'::l'):=by obtain⟨hl,he⟩:=Ac.1 h;rw[AY hl,he,Qg]
theorem JkS:∀{l:List Ty} {t:Ty},XX l->t∈l->Vg t
 | u::l,t,h,hm=>by
  simp only[XX]at h;rcases AS.1 hm with rfl |hm
  ·exact h.1
  ·exact JkS h.2 hm
theorem ZJ:∀{l:List Xp} {t:Xp},KP l->t∈l->Q7 t
 | u::l,t,h,hm=>by
  simp only[KP]at h;rcases AS.1 hm with rfl |hm
  ·exact h.1
  ·exact ZJ h.2 hm
theorem Jog:∀{l:List Ty} {t:Ty},t∈l->Xg t<=XI l
 | u::l,t,hm=>by
  simp only[XI];rcases AS.1 hm with rfl |hm
  ·omega
  ·have:=Jog hm;omega
theorem JaI:∀{l:List Xp} {t:Xp},t∈l->VY t<=KE l
 | u::l,t,hm=>by
  simp only[KE];rcases AS.1 hm with rfl |hm
  ·omega
  ·have:=JaI hm;omega
theorem Joh:∀ l:List Ty,l.length<=XI l
 | []=>Ag
 |⟨k,n,u,e,p,a⟩::l=>by have:=Joh l;simp only[XI,Xg,Ad];omega
theorem Zf:∀ l:List Xp,l.length<=KE l
 | []=>Ag
 |⟨k,n,u,e,p⟩::l=>by have:=Zf l;simp only[KE,VY,Ad];omega
theorem Joi(l:List Ty)(t:Ty):Jo (l++[t])=Jo l++[Jl t]:=by
 induction l with
 | nil=>rfl
 | cons a l ih=>simp only[Aw,Jo,ih]
theorem Joj{H H1 M:List Blk}{z b:Blk}{m:Nat}(hH:H1=H++[z])(h:m<H.length):m<(hp H1 H.length b M).length:=by subst hH;rw[XO];simp only[AG,Ad,Af];omega
def TyC(pr:Jz)(F:Nat->Option IFn)(cs:List Cls)(U:List (List Nat))(k:Nat):Prop:=∀(H:List Blk) (rw:List Nat) (nt:Nat) (r:Room) (t:Ty),TbU H nt cs U->RmOk r->r.vars.length+Xg t<=100000000->Xg t<=64800000->(Vg t\/JfH t)->Xg t<k ->
 ∃ rw',Rx rw rw'/\Det pr F 115 [.agg (JC nt r),.agg (Jl t)] ⟨H,rw⟩ (KR TyA (tyF cs U r t)) ⟨H,rw'⟩
theorem Ck{Q:Prop}(h:Q:=by simp only[Vy,Af];omega):Q:=h
theorem Fu{Q:Prop}(h:Q:=by simp[hdl]):Q:=h
theorem Fv{Q:Prop}(h:Q:=by rw[KB,An,<- KB];exact hl4):Q:=h
theorem JDb(L:LibW pr F){cs:List Cls}{U:List (List Nat)}(C:Cst cs U){k:Nat}(hE:ExC pr F cs U k)(hT:TyC pr F cs U k):TyC pr F cs U (k+1):=by
 intro H rw nt r t T hr hv hv2 hw hk;have hm:=L.hm;suffices h:Wp pr F 115 [.agg (JC nt r),.agg (Jl t)] ⟨H,rw⟩ λr' S'=>∃ rw',Rx rw rw'/\r'=KR TyA (tyF cs U r t)/\S'=⟨H,rw'⟩ by obtain⟨r',S',hd,rw',h1,rfl,rfl⟩:=h.det hm;exact⟨rw',h1,hd⟩
 have hR:Rx rw rw:=Rx.rfl;obtain⟨k1,n1,u1,e1,p1,a1⟩:=t;simp only[Xg]at hv hv2 hk;have hwt:XX e1/\KP p1:=by
  rcases hw with h |⟨a,h⟩
  ·simp only[Vg]at h;exact⟨h.2.2.1,h.2.2.2⟩
  ·simp only[Ty.mk.injEq]at h;obtain⟨-,-,-,rfl,rfl,-⟩:=h;exact⟨by simp only[XX],DK⟩
 have htl:=Jd4 e1;have hpl:=JV p1;have hel:=Joh e1;have hql:=Zf p1;have hod:tyF cs U r (.mk k1 n1 u1 e1 p1 a1)=(YV cs U e1).bind λe'=>(Qg cs U (Vz r [118] (.mk k1 n1 u1 e' [] a1) true) p1).bind λp'=>.ok (.mk k1 n1 u1 e' p' a1):=by simp only[tyF,JkR]
 generalize tyF cs U r (.mk k1 n1 u1 e1 p1 a1)=res at *;refine Jt hm L.f115.1 L.f115.2 rfl ?_;refine Kt hm ?_;unfold JvA;show At pr F H.length (fin _ H.length _) _ _ _ _;refine Ku hm ?_;intro H1 hH1 hlen hlt;refine' JM;refine Kj (q:=H.length) rfl rfl (Kh hlt) ?_;refine' JM;refine JB hm (λmm e S'=>∃(q:Nat) (done:List Ty) (J:List Blk) (lv:AV) (rw3:List Nat),S'=⟨hp H1 H.length (.cells [.int .i64 0,.str [],.bool false,.list 0 .full [],.list 0 .full [],.int .i64 0]) (.cells (JC nt r)::.cells (Jl (.mk k1 n1 u1 e1 p1 a1))::J),rw3⟩/\q<=e1.length/\done.length=q/\Lst rw 6 lv (Jo done) rw3/\Rx rw rw3 /\
   YV cs U e1=((YV cs U (e1.drop q)).bind λl=>.ok (done++l))/\mm=e1.length-q /\
   e=[(2,.ptr (H1.length+0) 0),(3,.ptr (H1.length+1) 0),(4,.ptr H.length 0),(5,lv),(14,Kp 6 (Jo e1)),(15,.int .i64 ((Jo e1).length:Int)),(16,.int .i64 q)]) ?_ (m:=e1.length) ⟨0,[],_,_,rw,rfl,O,rfl,Lst.nil,hR,?_,rfl,rfl⟩
 rotate_left
 ·simp only[AA,Au];cases YV cs U e1 <;> rfl
 clear hR;rintro mm e S' ⟨q,done,J,lv,rw3,rfl,hq0,hdl,hl,hR,hod2,rfl,rfl⟩;have hdl2:=Jd4 done;by_cases hq:q<e1.length
 ·obtain⟨x,hx⟩:∃ x,e1[q]? = some x:=⟨_,Ab hq⟩
  have hxr:(Jo e1)[q]? = some (Jl x):=by rw[Jd3,Ax,hx];rfl
  have hl6:Kp 6 (Jo e1)=.list 6 .dead (Jo e1):=Kf (i:=q) O;rw[JvR hx]at hod2;have hxm:=Aq hx;have hxw:=JkS hwt.1 hxm;have hxv:=Jog hxm;rw[hl6];refine' JM;obtain⟨rw4,hR4,hd⟩:=hT (hp H1 H.length (.cells [.int .i64 0,.str [],.bool false,.list 0 .full [],.list 0 .full [],.int .i64 0]) (.cells (JC nt r)::.cells (Jl (.mk k1 n1 u1 e1 p1 a1))::(J++[.cells (Jl x)]++[.cells (JC nt Vy)]))) rw3 nt Vy x (T.keep (JF hH1 _ _)) JhG Ck O (.inl hxw) O;refine Kk hd rfl rfl rfl ?_ ?_
  ·intro c hc;rw[hod,hod2,hc];subst hH1;exact KM (JS JZ ⟨_,hR.trans hR4,rfl,rfl⟩)
  intro x' v hvx hc;change v=.agg (Jl x')at hvx;subst hvx;rw[hc]at hod2;clear hd;replace hl:=hl.ext hR4;replace hR:=hR.trans hR4;refine JQ ?_;refine Qp ?_;refine Q1 rfl (vs:=[.agg (Jl x')]) rfl ?_;refine Z2 (K9 x') ?_;refine' JM;refine JT ?_;refine JW rfl rfl rfl ?_;refine QB hl hR AH AH O ?_;intro l4 rw5 hl4 hR5;refine JQ ?_;refine' JM;refine⟨e1.length-(q+1),O,q+1,done++[x'],_,l4,rw5,rfl,O,Fu,by rw[Joi];exact hl4,hR5,?_,rfl,by first |rfl |(rw[hl6];rfl)⟩;rw[hod2];show((YV cs U (e1.drop (q+1))).bind λl'=>.ok (x'::l')).bind _=_;cases YV cs U (e1.drop (q+1)) <;> simp[Except.bind]
 ·rw[AU O,YV]at hod2;change YV cs U e1=.ok (done++[])at hod2;rw[Ar]at hod2;rw[hod2]at hod;change res=(Qg cs U (Vz r [118] (.mk k1 n1 u1 done [] a1) true) p1).bind λp'=>.ok (.mk k1 n1 u1 done p' a1)at hod;have hcn:=hl.isL.canon;have hcl:=hl.isL.below H1.length;obtain⟨s4,t4,rfl,-,-⟩:=hl.isL.ex;have hcc:Jh [.int .i64 k1,.str n1,.bool u1,.list s4 t4 (Jo done),Kp 5 (Ja p1),.int .i64 a1]=Jl (.mk k1 n1 u1 done p1 a1):=by simp only[Jh,Ap,AC,hcn,Jq,Jl];rfl
  refine' JM;refine JB hm (λmm e S'=>∃(q:Nat) (dp:List Xp) (J:List Blk) (lv:AV) (rw4:List Nat),S'=⟨hp H1 H.length (.cells [.int .i64 0,.str [],.bool false,.list 0 .full [],.list 0 .full [],.int .i64 0]) (.cells (JC nt r)::.cells [.int .i64 k1,.str n1,.bool u1,.list s4 t4 (Jo done),Kp 5 (Ja p1),.int .i64 a1]::J),rw4⟩/\q<=p1.length/\dp.length=q/\Lst rw 5 lv (Ja dp) rw4/\Rx rw rw4 /\
   res=((Qg cs U (Vz r [118] (.mk k1 n1 u1 done [] a1) true) (p1.drop q)).bind λl=>.ok (.mk k1 n1 u1 done (dp++l) a1))/\mm=p1.length-q /\
   e=[(2,.ptr (H1.length+0) 0),(3,.ptr (H1.length+1) 0),(4,.ptr H.length 0),(9,lv),(33,Kp 5 (Ja p1)),(34,.int .i64 ((Ja p1).length:Int)),(35,.int .i64 q)]) ?_ (m:=p1.length) ⟨0,[],_,_,rw3,rfl,O,rfl,Lst.nil,hR,hod,rfl,rfl⟩
  clear hR hod hl q J hq0 hdl hq;rintro mm e S' ⟨q,dp,J,lv,rw4,rfl,hq0,hdl,hl,hR,hod,rfl,rfl⟩;have hdp2:=JV dp;by_cases hq:q<p1.length
  ·obtain⟨x,hx⟩:∃ x,p1[q]? = some x:=⟨_,Ab hq⟩
   have hxr:(Ja p1)[q]? = some (Jb x):=Fq
   have hl5:Kp 5 (Ja p1)=.list 5 .dead (Ja p1):=Kf (i:=q) O;have hwk:Vg (.mk k1 n1 u1 e1 p1 a1):=by
    rcases hw with h |⟨a,h⟩
    ·exact h
    ·simp only[Ty.mk.injEq]at h;rw[h.2.2.2.2.1]at hq;exact absurd hq Ag
   have hX:=(C.elm hwk (by simp only[Xg];omega) hod2).1;have hrw:=Jfh hr hX [118] true;rw[Jel hx]at hod;have hxm:=Aq hx;have hxw:=ZJ hwt.2 hxm;have hxv:=JaI hxm;rw[hl5];rw[hl5]at hcc;refine' JM;rw[hcc,Xd];obtain⟨rw5,hR5,hd⟩:=Jc2 L (Joj hH1 T.lt) rw4 r [118] (.mk k1 n1 u1 done p1 a1) true O;refine Je rfl rfl rfl ?_;refine Ks hd ?_;replace hl:=hl.ext hR5;replace hR:=hR.trans hR5;clear hd;refine JQ ?_;change In pr F H.length _ _ _ _ _ _ (KD _ _ (.agg (JC nt (Vz r [118] (.mk k1 n1 u1 done [] a1) true)))) _;refine' JM;rw[Xd];have hwl:(Vz r [118] (.mk k1 n1 u1 done [] a1) true).vars.length=r.vars.length+1:=by simp[Vz]
   obtain⟨rw6,hR6,hd⟩:=Jof L C hE (x:=x) (T.keep (JF hH1 (.cells [.int .i64 0,.str [],.bool false,.list 0 .full [],.list 0 .full [],.int .i64 0]) (.cells (JC nt r)::.cells [.int .i64 k1,.str n1,.bool u1,.list s4 t4 (Jo done),.list 5 .dead (Ja p1),.int .i64 a1]::(J++[.cells (Jb x)]++[.cells (JC nt (Vz r [118] (.mk k1 n1 u1 done [] a1) true))])))) (rw:=rw5) hrw O O hxw O;refine Kk hd rfl rfl rfl ?_ ?_
   ·intro c hc;rw[hod,hc];subst hH1;exact KM (JS JZ ⟨_,hR.trans hR6,rfl,rfl⟩)
   intro x' v hvx hc;change v=.agg (Jb x')at hvx;subst hvx;rw[hc]at hod;clear hd;replace hl:=hl.ext hR6;replace hR:=hR.trans hR6;refine JQ ?_;refine Qp ?_;refine Q1 rfl (vs:=[.agg (Jb x')]) rfl ?_;refine Z2 (JG x') ?_;refine' JM;refine JT ?_;refine JW rfl rfl rfl ?_;refine QB hl hR AH AH O ?_;intro l4 rw7 hl4 hR7;refine JQ ?_;refine' JM;refine⟨p1.length-(q+1),O,q+1,dp++[x'],_,l4,rw7,rfl,O,Fu,Fv,hR7,?_,rfl,Fc⟩;rw[hod];show((Qg cs U _ (p1.drop (q+1))).bind λl'=>.ok (x'::l')).bind _=_;cases Qg cs U (Vz r [118] (.mk k1 n1 u1 done [] a1) true) (p1.drop (q+1)) <;> simp[Except.bind]
  ·rw[AU O,Qg]at hod;change res=.ok (.mk k1 n1 u1 done (dp++[]) a1)at hod;rw[Ar]at hod;have hcn2:=hl.isL.canon;obtain⟨s5,t5,rfl,-,-⟩:=hl.isL.ex;refine' JM;have hcc2:Jh [.int .i64 k1,.str n1,.bool u1,.list s4 t4 (Jo done),.list s5 t5 (Ja dp),.int .i64 a1]=Jl (.mk k1 n1 u1 done dp a1):=by simp only[Jh,Ap,AC,hcn,hcn2,Jl];rfl
   rw[hcc2,hod];exact Ju hH1 rfl (K9 _) ⟨_,hR,rfl,rfl⟩
def JEq:{l:List IC // Tr.fn Tr.TU Tryz.f219 0 [[0,1],[4]]=l}:=⟨_,AO⟩
def JRJ:IC:=pk JEq.1 0
def JRK:IC:=pk JEq.1 1
def JRL:IFn:=⟨2,(.seq JRJ (.seq JRK .ret)),[.tmp 4]⟩
theorem J4v:JK Tryz.prog Tryz.f219 JRL=true:=Ae
def Jg8:{l:List IC // Tr.fn Tr.TU Tryz.f240 0 [[0,1],[0,1,7,8],[0,1,7,8,9],[0,1,5,7,8],[0,1,5,7,8,16],[4],[0,1,7,8],[4]]=l}:=⟨_,AO⟩
def JRM:IC:=pk Jg8.1 0
def JRN:IC:=pk Jg8.1 1
def JRO:IC:=pk Jg8.1 2
def JRP:IC:=pk Jg8.1 3
def JRQ:IC:=pk Jg8.1 4
def JRR:IC:=pk Jg8.1 5
def JRS:IC:=pk Jg8.1 6
def JRT:IC:=pk Jg8.1 7
def JRU:IFn:=⟨2,(.seq JRM (.seq (.seq JRN (.block 0 (.loop [0,1,7,8] (.seq JRO (.seq (.cond (.tmp 9) (.skip) (.exit 0)) (.seq (.block 1 (.seq JRP (.seq JRQ (.cond (.tmp 16) (.seq JRR .ret) (.skip))))) JRS)))))) (.seq JRT .ret))),[.tmp 4]⟩
theorem J4w:JK Tryz.prog Tryz.f240 JRU=true:=Ae
structure LibY(pr:Jz)(F:Nat->Option IFn):Prop extends LibW pr F where
 f219:QG pr F 219 JRL
 f240:QG pr F 240 JRU
def JjZ(k:Jk):List Jk->Int->Int
 | [],_=>-1
 | x::l,p=>if x=k then p else JjZ k l (p+1)
theorem JvS{k:Jk}{l:List Jk}{p:Int}(h0:0<=p):0<=JjZ k l p↔k∈l:=by
 induction l generalizing p with
 | nil=>simp[JjZ]
 | cons x l ih=>
  simp only[JjZ,AS];by_cases h:x=k
  ·rw[if_pos h];exact⟨λ_=>.inl h.symm,λ_=>h0⟩
  ·rw[if_neg h,ih O];exact⟨.inr,λh2=>h2.elim (λe=>absurd e.symm h) id⟩
theorem JsS{k x:Jk}{l:List Jk}{q:Nat}(h:l[q]? = some x):JjZ k (l.drop q) q=if x=k then(q:Int)else JjZ k (l.drop (q+1)) ((q+1:Nat):Int):=by obtain⟨hl,he⟩:=Ac.1 h;rw[AY hl,he,JjZ];rfl
theorem JvT(L:LibY pr F){v:AV}{l:List Jk}(hv:IsL 1 v (l.map Qy))(hl:l.length<=8000)(k:Jk):TxOk pr F 240 [v,.str k] (.int .i64 (JjZ k l 0)):=by
 have hm:=L.hm;obtain⟨z,tg,rfl,hz,-⟩:=hv.ex;refine TxOk.of0 hm L.f240.1 L.f240.2 rfl ?_;intro H rw b hlt;have hR:Rx rw rw:=Rx.rfl;have hll:(l.map Qy).length=l.length:=Ak _;refine' JM;refine JB hm (λmm e S'=>∃ q:Nat,S'=⟨hp H 0 b [],rw⟩/\q<=l.length/\JjZ k l 0=JjZ k (l.drop q) q/\mm=l.length-q /\
  e=[(0,.list z tg (l.map Qy)),(1,.str k),(7,.int .i64 ((l.map Qy).length:Int)),(8,.int .i64 q)]) ?_ (m:=l.length) ⟨0,rfl,O,rfl,rfl,rfl⟩
 rintro mm e S' ⟨q,rfl,hq0,hne,rfl,rfl⟩;by_cases hq:q<l.length
 ·obtain⟨x,hx⟩:∃ x,l[q]? = some x:=⟨_,Ab hq⟩
  have hxr:(l.map Qy)[q]? = some (Qy x):=E7
  have hz1:z=1:=hz Fs;subst hz1;rw[JsS hx]at hne;refine' JM
  ·have hk:k=x:=by assumption
   exact Js rfl rfl (JR hlt) ⟨_,hR,by rw[hne,if_pos hk.symm],rfl⟩
  ·have hk:¬k=x:=by assumption
   rw[if_neg (Ne.symm hk)]at hne;exact⟨l.length-(q+1),O,q+1,rfl,O,hne,rfl,rfl⟩
 ·refine' JM;rw[AU O]at hne;exact Js rfl rfl (JR hlt) ⟨_,hR,Fa,rfl⟩
theorem Jmt(L:LibY pr F){v:AV}{l:List Jk}(hv:IsL 1 v (l.map Qy))(hl:l.length<=8000)(k:Jk):TxOk pr F 219 [v,.str k] (.bool (l.contains k)):=by
 have hm:=L.hm;refine TxOk.of0 hm L.f219.1 L.f219.2 rfl ?_;intro H rw b hlt;have hR:Rx rw rw:=Rx.rfl;have htx:=JvT L hv hl k;have hmem:=JvS (k:=k) (l:=l) (p:=0) (Int.le_refl _);refine' JM
 ·exact Js rfl rfl (JR hlt) ⟨_,hR,by rw[List.contains_iff_mem.2 (hmem.1 O)],rfl⟩
 ·exact Js rfl rfl (JR hlt) ⟨_,hR,by rw[show l.contains k=false from by cases h:l.contains k with |false=>rfl |true=>(have:=hmem.2 (List.contains_iff_mem.1 h);omega)],rfl⟩
end Go.Proofs.YtmeakjgbjldkdaaGreat.Ai
