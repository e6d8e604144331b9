/- A part of what is proved: W23s, W24, W24c, W25, Dz, Ck0, L20, Ty8, W26, W30, W31, L22, W32, W33, W34, W35, W36_q89, W36_q91a, W36_q91b, W36_q91c, W36_q51, W36_q41, Ck1. No condition. -/
import Derived.Test.YtmeakjgbjldkdaaGreatI7
import Derived.Test.YtmeakjgbjldkdaaGreatProg
import Derived.KernelRfl
import Derived.Tactics
import Derived.Tactics2
import Derived.Defers
import Derived.Recover
set_option maxRecDepth 100000
set_option maxHeartbeats 16000000
noncomputable section
namespace Go.Proofs.YtmeakjgbjldkdaaGreat
abbrev CU:=@Array.getElem?_setIfInBounds
end Go.Proofs.YtmeakjgbjldkdaaGreat
namespace Go.Proofs.YtmeakjgbjldkdaaGreat.Ai
open Go
open Tr(pk)
variable {pr:Jz} {F:Nat->Option IFn}
theorem TbU.fieldOf(L:LibW pr F){H:List Blk}{rw:List Nat}{nt:Nat}{cs:List Cls}{U:List (List Nat)}(T:TbU H nt cs U)(s nm:Jk) :
  ∃ rw',Rx rw rw'/\Det pr F 30 [.ptr nt 0,.str s,.str nm] ⟨H,rw⟩ (.ret (JbT (Zi cs nm (KZ cs s)))) ⟨H,rw'⟩:=by
 obtain⟨mb,z,zb,tg,tb,o1,o2,o3,sl,h1,h2⟩:=T;exact JfW L.toLibE h1 s nm
def Jwg(k:Ctr):AV:=.agg (Jw k)
theorem Js5{cs:List Cls}{U:List (List Nat)}{c:Cls}{r:Room}{set:List Jk}{l:List Sm}{q:Nat}{s:Sm}(h:l[q]? = some s):VS cs U c r set (l.drop q)=VS cs U c r set (s::l.drop (q+1)):=by obtain⟨hl,he⟩:=Ac.1 h;rw[AY hl,he]
theorem Jwh:∀{l:List Sm} {s:Sm},Vf l->s∈l->Ja0 s
 | t::l,s,h,hs=>by
  simp only[Vf]at h;rcases AS.1 hs with rfl |hs
  ·exact h.1
  ·exact Jwh h.2 hs
def JaM(set:List Jk):List (Jk×AV):=set.map λn=>(n,.int .i64 1)
theorem Jk2(n:Jk):∀ set:List Jk,Vn (JaM set) n=if n∈set then some (.int .i64 1)else none
 | []=>rfl
 | m::set=>by
  have ih:=Jk2 n set;simp only[JaM,Ap,Vn];by_cases hm:m=n
  ·subst hm;simp
  ·rw[if_neg hm];show Vn (JaM set) n=_;rw[ih];simp[Ne.symm hm]
theorem JoF{n:Jk}:∀{set:List Jk},n ∉ set->ZM (JaM set) n (.int .i64 1)=JaM (set++[n])
 | [],_=>rfl
 | m::set,h=>by simp only[AS,not_or]at h;have ih:=JoF h.2;simp only[JaM,Ap,ZM,Aw];rw[if_neg (Ne.symm h.1)];show(m,AV.int .i64 1)::ZM (JaM set) n (.int .i64 1)=_;rw[ih];rfl
def Jbu:List AV:=[.list 0 .full [],.bool false,.list 0 .full [],.list 0 .full [],.int .i64 0]
section
variable {b0 base ix:Nat} {d:Option Nat} {g:Option (Nat×Bool)} {prev items:List Item} {kp:List Nat} {k:List Fr} {e:KC} {Q:Ex->KC->St->Prop} {S:St} {H M M':List Blk} {n j:Nat} {b:Blk} {rw:List Nat} {re:List Nat}
theorem JSf{m x y:Opd}{es:List (Jk×AV)}{s:Jk}{v:AV}(hlt:n<H.length)(hw:wanted g (Jj e)=some true)(hm:m.val (Jj e)=some (.map (H.length+j)))(hx:x.val (Jj e)=some (.str s))(hy:y.val (Jj e)=some v)(hb:below (H.length+j+1) v=true)(hM:M[j]? = some (.map es))(hs:M.set j (.map (ZM es s v))=M')
  (h:J8 prev re (KD e d .undef) (hp H n b M') base=true/\In pr F b0 Q base (⟨ix,d,g,.l (.mapUpd m x y) re⟩::prev) items kp k (KD e d .undef) ⟨hp H n b M',rw⟩) :
  In pr F b0 Q base prev (⟨ix,d,g,.l (.mapUpd m x y) re⟩::items) kp k e ⟨hp H n b M,rw⟩:=by
 subst hs;obtain⟨hr,hk⟩:=h;refine Jiz hw ?_ hr hk;have e1:=(Vq (b:=b) (L:=M) hlt j).trans hM;simp only[XN,hm,hx,hy,e1,hb,or_true,if_true,YS hlt]
theorem JSg{x:Opd}{es:List (Jk×AV)}(hlt:n<H.length)(hw:wanted g (Jj e)=some true)(hx:x.val (Jj e)=some (.map (H.length+j)))(hM:M[j]? = some (.map es))(h:In pr F b0 Q base (⟨ix,d,g,.q (.lenM x)⟩::prev) items kp k (KD e d (.int .i64 es.length)) ⟨hp H n b M,rw⟩) :
  In pr F b0 Q base prev (⟨ix,d,g,.q (.lenM x)⟩::items) kp k e ⟨hp H n b M,rw⟩:=by
 have e1:=(Vq (b:=b) (L:=M) hlt j).trans hM;exact JbF hw (by simp only[QY,hx,e1,i64]) h
theorem k_o{L:AV->Prop}{zero:AV}{s:Jk}{es:List (Jk×AV)}(hlt:n<H.length)(hM:M[j]? = some (.map es))(h1:∀ v,Vn es s=some v->L v)(h2:Vn es s=none->L zero):LkAt zero false (.map (H.length+j)) (.str s) ⟨hp H n b M,rw⟩ L:=by
 refine⟨?_⟩;have e1:=(Vq (b:=b) (L:=M) hlt j).trans hM;simp only[e1];cases hm:Vn es s with
 | some v=>exact⟨_,rfl,h1 v hm⟩
 | none=>exact⟨_,rfl,h2 hm⟩
end
theorem JDq(L:LibY pr F){cs:List Cls}{U:List (List Nat)}(C:Cst cs U){H H1:List Blk}{rw rw6:List Nat}{nt:Nat}{cn:Jk}{cif:Bool}{csu:Jk}{cab:List Jk}{cfs:List Fld}{cvs:List Xp}{ct:List Ctr}{cms:List Mth}{cat:Int}
  {ps:List Par} {khs:Bool} {done0:List Xp} {kbd:List Sm} {kat:Int} {s1 s4:Nat} {t1 t4:Tag} {vb:AV} {JX:List Blk} {r2:Room} {res:Er Ctr} (hH1:H1=H++[.cells Jbu]) (hlt:H.length<H1.length) (T1:∀ M,TbU (hp H1 H.length (.cells Jbu) M) nt cs U)
  (pan:∀(x:Int×Int) (e:KC) (M:List Blk) (rw':List Nat),res=.error x->Rx rw rw'->fin [.cell 6 (some 5)] H.length (λr' S'=>∃ rw',Rx rw rw'/\r'=KR Jwg res/\S'=⟨H,rw'⟩) (.panic (Xs x)) e ⟨hp H1 H.length (.cells Jbu) M,rw'⟩)
  (_hcl:cfs.length<=64800000) (hnr:nt<H1.length+2) (hKb:Vf kbd) (hr2:RmOk r2) (hv:r2.vars.length+Qj kbd<=90000000) (hw:Qj kbd<=64800000) (hrl:r2.ret.length<=1) (hcn1:canon1 (.list s1 t1 (ps.map Jf))=Kp 8 (ps.map Jf)) (hcn2:canon1 (.list s4 t4 (Ja done0))=Kp 5 (Ja done0)) (hR:Rx rw rw6)
  (hres:res=(VS cs U ⟨cn,cif,csu,cab,cfs,cvs,ct,cms,cat⟩ r2 [] kbd).bind λy=>if y.2.length<cfs.length then Kz 137 kat else .ok ⟨ps,khs,done0,y.1,kat⟩) :
  At pr F H.length (fin [.cell 6 (some 5)] H.length λr' S'=>∃ rw',Rx rw rw'/\r'=KR Jwg res/\S'=⟨H,rw'⟩)
   (IC.loop [0,4,5,6,7,14,15,73,74,75] (Jrt.seq ((IC.cond (.tmp 76) IC.skip (IC.exit 2)).seq ((IC.block 3 (Jru.seq ((Jrv.seq (IC.cond (.tmp 89) (Jrw.seq (IC.exit 3)) IC.skip)).seq (Jrx.seq ((Jry.seq (IC.cond (.tmp 119) Jrz IC.skip)).seq (JrA.seq (JrB.seq (JrC.seq JrD)))))))).seq JrE))))
   [Fr.blk 2,Fr.code (JrF.seq ((JrG.seq (IC.cond (.tmp 158) JrH IC.skip)).seq (JrI.seq IC.ret)))]
   [(0,.ptr nt 0),(4,.ptr (H1.length+0) 0),(5,.ptr (H1.length+1) 0),(6,.ptr H.length 0),(7,.ptr (H1.length+2) 0),(14,.map (H1.length+(JX.length+3))),(15,.list 0 .full []),(73,Kp 7 (Jg kbd)),(74,.int .i64 ((Jg kbd).length:Int)),(75,.int .i64 0)]
   ⟨hp H1 H.length (.cells Jbu) (.cells (Jc ⟨cn,cif,csu,cab,cfs,cvs,ct,cms,cat⟩)::.cells [.list s1 t1 (ps.map Jf),.bool khs,.list s4 t4 (Ja done0),vb,.int .i64 kat]::.cells (JC nt r2)::(JX++[.map []])),rw6⟩:=by
 have hm:=L.hm;have hsl:(Jg kbd).length=kbd.length:=by rw[Qh,Ak]
 have hwl:=Jjy kbd;refine JB hm (λmm e S'=>∃(q:Nat) (done:List Sm) (set:List Jk) (r3:Room) (J:List Blk) (lv:AV) (rw3:List Nat),S'=⟨hp H1 H.length (.cells Jbu) (.cells (Jc ⟨cn,cif,csu,cab,cfs,cvs,ct,cms,cat⟩)::.cells [.list s1 t1 (ps.map Jf),.bool khs,.list s4 t4 (Ja done0),vb,.int .i64 kat]::.cells (JC nt r3)::J),rw3⟩/\J[JX.length]? = some (.map (JaM set))/\q<=kbd.length/\done.length=q/\set.length<=q/\RmOk r3/\r3.vars.length+Qj (kbd.drop q)<=90000000/\r3.ret.length<=1/\Lst rw6 7 lv (Jg done) rw3/\Rx rw6 rw3 /\
  (VS cs U ⟨cn,cif,csu,cab,cfs,cvs,ct,cms,cat⟩ r2 [] kbd=(VS cs U ⟨cn,cif,csu,cab,cfs,cvs,ct,cms,cat⟩ r3 set (kbd.drop q)).bind λy=>.ok (done++y.1,y.2))/\mm=kbd.length-q /\
  e=[(0,.ptr nt 0),(4,.ptr (H1.length+0) 0),(5,.ptr (H1.length+1) 0),(6,.ptr H.length 0),(7,.ptr (H1.length+2) 0),(14,.map (H1.length+(JX.length+3))),(15,lv),(73,Kp 7 (Jg kbd)),(74,.int .i64 ((Jg kbd).length:Int)),(75,.int .i64 q)]) ?_ (m:=kbd.length) ⟨0,[],[],r2,_,_,rw6,rfl,by simp[JaM],O,rfl,Ao 0,hr2,by rw[AA];exact hv,hrl,Lst.nil,Rx.rfl,?_,rfl,rfl⟩
 rotate_left
 ·simp only[AA,Au];cases VS cs U ⟨cn,cif,csu,cab,cfs,cvs,ct,cms,cat⟩ r2 [] kbd <;> rfl
 rintro mm e S' ⟨q,done,set,r3,J,lv,rw3,rfl,hmp,hq0,hdl,hst,hr3,hv3,hrl3,hli,hR3,hod,rfl,rfl⟩;have hdl2:(Jg done).length=done.length:=by rw[Qh,Ak]
 by_cases hq:q<kbd.length
 ·obtain⟨s,hs⟩:∃ s,kbd[q]? = some s:=⟨_,Ab hq⟩
  have hsr:(Jg kbd)[q]? = some (Jp s):=by rw[Qh,Ax,hs];rfl
  have hl7:Kp 7 (Jg kbd)=.list 7 .dead (Jg kbd):=Kf (i:=q) O;rw[Js5 hs]at hod;rw[JkT hs]at hv3;have hsm:=Aq hs;have hws:=Jjx hsm;have hok:=Jwh hKb hsm;rw[hl7];obtain⟨kind,n,ty,exs,b,e,a⟩:=s;rw[VS]at hod;simp only[Ja0]at hok;obtain⟨hk,-,hex,-,-⟩:=hok;have hmj:=λ(J':List Blk)=>Vj (Y:=J') hmp;have hS:=Jdr L C kbd hKb _ hsm;by_cases hA:kind≠[102,105,101,108,100]\/opX (nth exs 0)≠[116,104,105,115]
  ·rw[if_pos hA]at hod;have hgo:∀ P:Prop,(kind≠[102,105,101,108,100]->P)->(kind=[102,105,101,108,100]->(∃ o y,exs=[o,y])->opX (nth exs 0)≠[116,104,105,115]->P)->P:=λP h1 h2=>by
    by_cases hkf:kind=[102,105,101,108,100]
    ·subst hkf;refine h2 rfl ?_ (hA.resolve_left λh=>h rfl);unfold Jd2 at hk;rcases hk with⟨q,-⟩ |⟨q,-⟩ |⟨-,-,-,q,-⟩ |⟨q,-⟩ |⟨q,-⟩ |⟨q,-⟩ |⟨q,-⟩ |⟨q,-⟩
     ·exact absurd q Aj
     ·exact absurd q Aj
     ·exact q
     ·exact absurd q Aj
     ·exact absurd q Aj
     ·exact absurd q Aj
     ·exact absurd q Aj
     ·exact absurd q Aj
    ·exact h1 hkf
   refine hgo _ (λhkf=>?_) (λhkf hxy hth=>?_)
   ·refine' JM;obtain⟨hinv,rw4,hR4,hd⟩:=hS _ rw3 (H1.length+2) nt r3 (T1 (.cells (Jc ⟨cn,cif,csu,cab,cfs,cvs,ct,cms,cat⟩)::.cells [.list s1 t1 (ps.map Jf),.bool khs,.list s4 t4 (Ja done0),vb,.int .i64 kat]::.cells (JC nt r3)::(J++[.cells (Jp (.mk kind n ty exs b e a))]))) (Jem hlt rfl) hnr hr3 O O hrl3;cases hc:XD cs U r3 (.mk kind n ty exs b e a)with
    | error c=>rw[hc]at hd hod;rw[hod]at hres;refine KV hd rfl rfl rfl ?_;exact KM (pan c _ _ _ hres ((hR.trans hR3).trans hR4))
    | ok y=>
     obtain⟨s2,r4⟩:=y;rw[hc]at hd hod;obtain⟨hr4,hv4,hrl4⟩:=hinv _ hc;simp only at hr4 hv4 hrl4;have hset:Jcj (hp H1 H.length (.cells Jbu) (.cells (Jc ⟨cn,cif,csu,cab,cfs,cvs,ct,cms,cat⟩)::.cells [.list s1 t1 (ps.map Jf),.bool khs,.list s4 t4 (Ja done0),vb,.int .i64 kat]::.cells (JC nt r3)::(J++[.cells (Jp (.mk kind n ty exs b e a))]))) (H1.length+2) nt (.ok (s2,r4))=hp H1 H.length (.cells Jbu) (.cells (Jc ⟨cn,cif,csu,cab,cfs,cvs,ct,cms,cat⟩)::.cells [.list s1 t1 (ps.map Jf),.bool khs,.list s4 t4 (Ja done0),vb,.int .i64 kat]::.cells (JC nt r4)::(J++[.cells (Jp (.mk kind n ty exs b e a))])):=FH
     rw[hset]at hd;refine Je rfl rfl rfl ?_;refine Ks hd ?_;simp only[SmR];clear hd hinv hset;replace hli:=hli.ext hR4;replace hR3:=hR3.trans hR4;refine JQ ?_;refine Qp ?_;refine Q1 rfl (vs:=[.agg (Jp s2)]) rfl ?_;refine Z2 (Kx s2) ?_;refine' JM;refine JT ?_;refine JW rfl rfl rfl ?_;refine QB hli hR3 AH AH O ?_;intro l4 rw7 hl4 hR7;refine JQ ?_;refine' JM;refine⟨kbd.length-(q+1),O,q+1,done++[s2],set,r4,_,l4,rw7,rfl,hmj _,O,Fu,O,hr4,by have:=Jh6 (.mk kind n ty exs b e a);omega,by rw[hrl4];exact hrl3,?_,hR7,?_,rfl,FI⟩
     ·rw[Qh,An,<- Qh];exact hl4
     ·rw[hod];show((VS cs U ⟨cn,cif,csu,cab,cfs,cvs,ct,cms,cat⟩ r4 set (kbd.drop (q+1))).bind λy=>.ok (s2::y.1,y.2)).bind _=_;cases VS cs U ⟨cn,cif,csu,cab,cfs,cvs,ct,cms,cat⟩ r4 set (kbd.drop (q+1)) <;> simp[Except.bind]
   ·subst hkf;obtain⟨o,y,rfl⟩:=hxy;obtain⟨op0,n0,l0,ty0,a0⟩:=o;have hx0:(Ja [.mk op0 n0 l0 ty0 a0,y])[0]? = some (Jb (.mk op0 n0 l0 ty0 a0)):=rfl;have hxl:(Ja [.mk op0 n0 l0 ty0 a0,y]).length=2:=rfl;replace hth:op0≠[116,104,105,115]:=hth;refine' JM;obtain⟨hinv,rw4,hR4,hd⟩:=hS _ rw3 (H1.length+2) nt r3 (T1 (.cells (Jc ⟨cn,cif,csu,cab,cfs,cvs,ct,cms,cat⟩)::.cells [.list s1 t1 (ps.map Jf),.bool khs,.list s4 t4 (Ja done0),vb,.int .i64 kat]::.cells (JC nt r3)::(J++[.cells (Jp (.mk [102,105,101,108,100] n ty [.mk op0 n0 l0 ty0 a0,y] b e a))]))) (Jem hlt rfl) hnr hr3 O O hrl3;cases hc:XD cs U r3 (.mk [102,105,101,108,100] n ty [.mk op0 n0 l0 ty0 a0,y] b e a)with
    | error c=>rw[hc]at hd hod;rw[hod]at hres;refine KV hd rfl rfl rfl ?_;exact KM (pan c _ _ _ hres ((hR.trans hR3).trans hR4))
    | ok y=>
     obtain⟨s2,r4⟩:=y;rw[hc]at hd hod;obtain⟨hr4,hv4,hrl4⟩:=hinv _ hc;simp only at hr4 hv4 hrl4;have hset:Jcj (hp H1 H.length (.cells Jbu) (.cells (Jc ⟨cn,cif,csu,cab,cfs,cvs,ct,cms,cat⟩)::.cells [.list s1 t1 (ps.map Jf),.bool khs,.list s4 t4 (Ja done0),vb,.int .i64 kat]::.cells (JC nt r3)::(J++[.cells (Jp (.mk [102,105,101,108,100] n ty [.mk op0 n0 l0 ty0 a0,y] b e a))]))) (H1.length+2) nt (.ok (s2,r4))=hp H1 H.length (.cells Jbu) (.cells (Jc ⟨cn,cif,csu,cab,cfs,cvs,ct,cms,cat⟩)::.cells [.list s1 t1 (ps.map Jf),.bool khs,.list s4 t4 (Ja done0),vb,.int .i64 kat]::.cells (JC nt r4)::(J++[.cells (Jp (.mk [102,105,101,108,100] n ty [.mk op0 n0 l0 ty0 a0,y] b e a))])):=FH
     rw[hset]at hd;refine Je rfl rfl rfl ?_;refine Ks hd ?_;simp only[SmR];clear hd hinv hset;replace hli:=hli.ext hR4;replace hR3:=hR3.trans hR4;refine JQ ?_;refine Qp ?_;refine Q1 rfl (vs:=[.agg (Jp s2)]) rfl ?_;refine Z2 (Kx s2) ?_;refine' JM;refine JT ?_;refine JW rfl rfl rfl ?_;refine QB hli hR3 AH AH O ?_;intro l4 rw7 hl4 hR7;refine JQ ?_;refine' JM;refine⟨kbd.length-(q+1),O,q+1,done++[s2],set,r4,_,l4,rw7,rfl,hmj _,O,Fu,O,hr4,by have:=Jh6 (.mk [102,105,101,108,100] n ty [.mk op0 n0 l0 ty0 a0,y] b e a);omega,by rw[hrl4];exact hrl3,?_,hR7,?_,rfl,FI⟩
     ·rw[Qh,An,<- Qh];exact hl4
     ·rw[hod];show((VS cs U ⟨cn,cif,csu,cab,cfs,cvs,ct,cms,cat⟩ r4 set (kbd.drop (q+1))).bind λy=>.ok (s2::y.1,y.2)).bind _=_;cases VS cs U ⟨cn,cif,csu,cab,cfs,cvs,ct,cms,cat⟩ r4 set (kbd.drop (q+1)) <;> simp[Except.bind]
  ·have hkf:kind=[102,105,101,108,100]:=by
    by_cases hkf:kind=[102,105,101,108,100]
    ·exact hkf
    ·exact absurd (.inl hkf) hA
   have hth:opX (nth exs 0)=[116,104,105,115]:=by
    by_cases hth:opX (nth exs 0)=[116,104,105,115]
    ·exact hth
    ·exact absurd (.inr hth) hA
   rw[if_neg hA]at hod;subst hkf;have hxy:∃ o y,exs=[o,y]:=by
    unfold Jd2 at hk;rcases hk with⟨q,-⟩ |⟨q,-⟩ |⟨-,-,-,q,-⟩ |⟨q,-⟩ |⟨q,-⟩ |⟨q,-⟩ |⟨q,-⟩ |⟨q,-⟩
    ·exact absurd q Aj
    ·exact absurd q Aj
    ·exact q
    ·exact absurd q Aj
    ·exact absurd q Aj
    ·exact absurd q Aj
    ·exact absurd q Aj
    ·exact absurd q Aj
   obtain⟨o,y,rfl⟩:=hxy;obtain⟨op0,n0,l0,ty0,a0⟩:=o;have hx0:(Ja [.mk op0 n0 l0 ty0 a0,y])[0]? = some (Jb (.mk op0 n0 l0 ty0 a0)):=rfl;have hx1:(Ja [.mk op0 n0 l0 ty0 a0,y])[1]? = some (Jb y):=rfl;have hxl:(Ja [.mk op0 n0 l0 ty0 a0,y]).length=2:=rfl;have hwx:=JbO _ hex;have hve:=Je3 [.mk op0 n0 l0 ty0 a0,y];simp only[KP,and_true]at hwx;simp only[KE,AE]at hve;have hwy:=hwx.2;simp only[wSm]at hws hv3;replace hth:op0=[116,104,105,115]:=hth;subst hth;refine' JM;obtain⟨rw4,hR4,hd⟩:=TbU.fieldOf L.toLibW (T1 (.cells (Jc ⟨cn,cif,csu,cab,cfs,cvs,ct,cms,cat⟩)::.cells [.list s1 t1 (ps.map Jf),.bool khs,.list s4 t4 (Ja done0),vb,.int .i64 kat]::.cells (JC nt r3)::(J++[.cells (Jp (.mk [102,105,101,108,100] n ty [.mk [116,104,105,115] n0 l0 ty0 a0,y] b e a))]++[.cells (Jn JlV)]))) cn n (rw:=rw3);refine Je rfl rfl rfl ?_;refine Ks hd ?_;clear hd;replace hli:=hli.ext hR4;replace hR3:=hR3.trans hR4;cases hf:Zi cs n (KZ cs cn)with
   | none=>rw[hf]at hod;replace hod:VS cs U ⟨cn,cif,csu,cab,cfs,cvs,ct,cms,cat⟩ r2 [] kbd=.error (137,a):=hod;rw[hod]at hres;simp only[JbT,B4,BR,BU];refine JQ ?_;refine' JM;refine KV (Kr L.toLibW _ _ _ _) rfl rfl rfl ?_;exact KM (pan _ _ _ _ hres (hR.trans hR3))
   | some of=>
    obtain⟨o,f⟩:=of;have hX:=Jl4 C.ok hf;rw[hf]at hod;simp only at hod;obtain⟨fn,⟨k2,n2,u2,e2,p2,b2⟩,ff,fa⟩:=f;simp only[JbT,A9,Bc,Bj];refine JQ ?_;by_cases hoc:o=cn
    ·replace hoc:=hoc.symm;subst hoc;have hJ2:(J++[.cells (Jp (.mk [102,105,101,108,100] n ty [.mk [116,104,105,115] n0 l0 ty0 a0,y] b e a))]++[.cells (Jn ⟨fn,.mk k2 n2 u2 e2 p2 b2,ff,fa⟩)])[JX.length]? = some (.map (JaM set)):=Vj (Vj hmp);have hlk:=Jk2 n set;by_cases hns:n∈set
     ·rw[if_pos (.inr (by simpa using hns))]at hod;replace hod:VS cs U ⟨cn,cif,csu,cab,cfs,cvs,ct,cms,cat⟩ r2 [] kbd=.error (137,a):=hod;rw[hod]at hres;rw[if_pos hns]at hlk;refine' JM;refine JfG ?_;refine Jaw rfl rfl rfl ?_;refine k_o (es:=JaM set) hlt hJ2 (λv hv=>?_) (λhv=>by rw[hlk]at hv;cases hv);rw[hlk]at hv;cases hv;refine' JM;refine KV (Kr L.toLibW _ _ _ _) rfl rfl rfl ?_;exact KM (pan _ _ _ _ hres (hR.trans hR3))
     ·have hnn:¬(cn≠cn\/set.contains n=true):=λh=>h.elim (λh=>h rfl) (λh=>hns EC);replace hod:VS cs U ⟨cn,cif,csu,cab,cfs,cvs,ct,cms,cat⟩ r2 [] kbd=((QQ cs U r3 y (.mk k2 n2 u2 e2 p2 b2)).bind λx=>(VS cs U ⟨cn,cif,csu,cab,cfs,cvs,ct,cms,cat⟩ r3 (set++[n]) (kbd.drop (q+1))).bind λz=>.ok (.mk [102,105,101,108,100] n ty [XC (.mk [116,104,105,115] n0 l0 ty0 a0) (Yr cn),x] b e a::z.1,z.2)).bind λz=>.ok (done++z.1,z.2):=by rw[hod,if_neg hnn];rfl
      rw[if_neg hns]at hlk;refine' JM;refine JfG ?_;refine Jaw rfl rfl rfl ?_;refine k_o (es:=JaM set) hlt hJ2 (λv hv=>by rw[hlk]at hv;cases hv) (λhv=>?_);clear hv;refine' JM;refine JfG ?_;refine Jaw rfl rfl rfl ?_;refine k_o (es:=JaM set) hlt hJ2 (λv hv=>by rw[hlk]at hv;cases hv) (λhv=>?_);clear hv;refine' JM;have hjl:JX.length<J.length:=(Ac.1 hmp).1;obtain⟨J2,hJe⟩:∃ J2,J2=J.set JX.length (.map (JaM (set++[n]))):=⟨_,rfl⟩
      have hJl:J.length=J2.length:=by rw[hJe,List.length_set]
      have hmp2:J2[JX.length]? = some (.map (JaM (set++[n]))):=by rw[hJe,A3 hjl]
      have hst2:(J++[Blk.cells (Jp (.mk [102,105,101,108,100] n ty [.mk [116,104,105,115] n0 l0 ty0 a0,y] b e a))]++[Blk.cells (Jn ⟨fn,.mk k2 n2 u2 e2 p2 b2,ff,fa⟩)]).set JX.length (.map (ZM (JaM set) n (.int .i64 (0+1))))=J2++[Blk.cells (Jp (.mk [102,105,101,108,100] n ty [.mk [116,104,105,115] n0 l0 ty0 a0,y] b e a))]++[Blk.cells (Jn ⟨fn,.mk k2 n2 u2 e2 p2 b2,ff,fa⟩)]:=by rw[CL _ _ (by simp only[AG];omega),CL _ _ hjl,show((0:Int)+1)=1 from rfl,JoF hns,hJe]
      refine Jkz ?_;refine JSf (j:=JX.length+3) (es:=JaM set) (M':=_::_::_::(J2++[Blk.cells (Jp (.mk [102,105,101,108,100] n ty [.mk [116,104,105,115] n0 l0 ty0 a0,y] b e a))]++[Blk.cells (Jn ⟨fn,.mk k2 n2 u2 e2 p2 b2,ff,fa⟩)])) hlt rfl rfl rfl rfl rfl hJ2 (congrArg (λz=>_::_::_::z) hst2) ?_;rw[show(J++[Blk.cells (Jp (.mk [102,105,101,108,100] n ty [.mk [116,104,105,115] n0 l0 ty0 a0,y] b e a))]).length=(J2++[Blk.cells (Jp (.mk [102,105,101,108,100] n ty [.mk [116,104,105,115] n0 l0 ty0 a0,y] b e a))]).length by simp only[AG,Cu,hJl]];try rw[hJl]
      clear hst2 hJe hJ2 hlk hmj hmp hjl;have hmj:=λ(J':List Blk)=>Vj (Y:=J') hmp2;have hb17a:(Blk.cells (Jc ⟨cn,cif,csu,cab,cfs,cvs,ct,cms,cat⟩)::Blk.cells [.list s1 t1 (ps.map Jf),.bool khs,.list s4 t4 (Ja done0),vb,.int .i64 kat]::Blk.cells (JC nt r3)::(J2++[Blk.cells (Jp (.mk [102,105,101,108,100] n ty [.mk [116,104,105,115] n0 l0 ty0 a0,y] b e a))]++[Blk.cells (Jn ⟨fn,.mk k2 n2 u2 e2 p2 b2,ff,fa⟩)]++[Blk.cells [.str [],.str [],.list 0 .full [],.list 0 .full [],.int .i64 0]]))[J2.length+3]? = some (Blk.cells (Jp (.mk [102,105,101,108,100] n ty [.mk [116,104,105,115] n0 l0 ty0 a0,y] b e a))):=Ag;have hb18a:(Blk.cells (Jc ⟨cn,cif,csu,cab,cfs,cvs,ct,cms,cat⟩)::Blk.cells [.list s1 t1 (ps.map Jf),.bool khs,.list s4 t4 (Ja done0),vb,.int .i64 kat]::Blk.cells (JC nt r3)::(J2++[Blk.cells (Jp (.mk [102,105,101,108,100] n ty [.mk [116,104,105,115] n0 l0 ty0 a0,y] b e a))]++[Blk.cells (Jn ⟨fn,.mk k2 n2 u2 e2 p2 b2,ff,fa⟩)]++[Blk.cells [.str [],.str [],.list 0 .full [],.list 0 .full [],.int .i64 0]]))[(J2++[Blk.cells (Jp (.mk [102,105,101,108,100] n ty [.mk [116,104,105,115] n0 l0 ty0 a0,y] b e a))]).length+3]? = some (Blk.cells (Jn ⟨fn,.mk k2 n2 u2 e2 p2 b2,ff,fa⟩)):=Ag;have hb17b:(Blk.cells (Jc ⟨cn,cif,csu,cab,cfs,cvs,ct,cms,cat⟩)::Blk.cells [.list s1 t1 (ps.map Jf),.bool khs,.list s4 t4 (Ja done0),vb,.int .i64 kat]::Blk.cells (JC nt r3)::(J2++[Blk.cells (Jp (.mk [102,105,101,108,100] n ty [.mk [116,104,105,115] n0 l0 ty0 a0,y] b e a))]++[Blk.cells (Jn ⟨fn,.mk k2 n2 u2 e2 p2 b2,ff,fa⟩)]++[Blk.cells (Jb (XC (.mk [116,104,105,115] n0 l0 ty0 a0) (Yr cn)))]))[J2.length+3]? = some (Blk.cells (Jp (.mk [102,105,101,108,100] n ty [.mk [116,104,105,115] n0 l0 ty0 a0,y] b e a))):=Ag;have hb18b:(Blk.cells (Jc ⟨cn,cif,csu,cab,cfs,cvs,ct,cms,cat⟩)::Blk.cells [.list s1 t1 (ps.map Jf),.bool khs,.list s4 t4 (Ja done0),vb,.int .i64 kat]::Blk.cells (JC nt r3)::(J2++[Blk.cells (Jp (.mk [102,105,101,108,100] n ty [.mk [116,104,105,115] n0 l0 ty0 a0,y] b e a))]++[Blk.cells (Jn ⟨fn,.mk k2 n2 u2 e2 p2 b2,ff,fa⟩)]++[Blk.cells (Jb (XC (.mk [116,104,105,115] n0 l0 ty0 a0) (Yr cn)))]))[(J2++[Blk.cells (Jp (.mk [102,105,101,108,100] n ty [.mk [116,104,105,115] n0 l0 ty0 a0,y] b e a))]).length+3]? = some (Blk.cells (Jn ⟨fn,.mk k2 n2 u2 e2 p2 b2,ff,fa⟩)):=Ag;have htd:TxOk pr F 182 [.agg (Jb (.mk [116,104,105,115] n0 l0 ty0 a0)),.agg (Jl (Yr cn))] (.agg (Jb (XC (.mk [116,104,105,115] n0 l0 ty0 a0) (Yr cn)))):=YK L.toLibW _ _;refine JQ ?_;refine' JM;refine Je rfl rfl rfl ?_;refine JAG htd (JlR hlt) ?_;intro rw5 hR5;replace hli:=hli.ext hR5;replace hR3:=hR3.trans hR5;refine JQ ?_;refine' JM;obtain⟨J3,hJ3⟩:∃ J3,J2++[Blk.cells (Jp (.mk [102,105,101,108,100] n ty [.mk [116,104,105,115] n0 l0 ty0 a0,y] b e a))]++[Blk.cells (Jn ⟨fn,.mk k2 n2 u2 e2 p2 b2,ff,fa⟩)]++[Blk.cells (Jb (XC (.mk [116,104,105,115] n0 l0 ty0 a0) (Yr cn)))]=J3:=⟨_,rfl⟩
      have hb21b:(Blk.cells (Jc ⟨cn,cif,csu,cab,cfs,cvs,ct,cms,cat⟩)::Blk.cells [.list s1 t1 (ps.map Jf),.bool khs,.list s4 t4 (Ja done0),vb,.int .i64 kat]::Blk.cells (JC nt r3)::J3)[(J2++[Blk.cells (Jp (.mk [102,105,101,108,100] n ty [.mk [116,104,105,115] n0 l0 ty0 a0,y] b e a))]++[Blk.cells (Jn ⟨fn,.mk k2 n2 u2 e2 p2 b2,ff,fa⟩)]).length+3]? = some (Blk.cells (Jb (XC (.mk [116,104,105,115] n0 l0 ty0 a0) (Yr cn)))):=by rw[<- hJ3];simp
      have hmp3:J3[JX.length]? = some (.map (JaM (set++[n]))):=by rw[<- hJ3];exact Vj (Vj (Vj hmp2))
      have hjl3:JX.length<J2.length:=(Ac.1 hmp2).1;rw[hJ3]at hb17b hb18b |-;have hX3:J3[J2.length]? = some (Blk.cells (Jp (.mk [102,105,101,108,100] n ty [.mk [116,104,105,115] n0 l0 ty0 a0,y] b e a))):=hb17b;clear hJ3 hb17a hb18a hb18b hmp2;obtain⟨j21,hj21⟩:∃ j,(J2++[Blk.cells (Jp (.mk [102,105,101,108,100] n ty [.mk [116,104,105,115] n0 l0 ty0 a0,y] b e a))]++[Blk.cells (Jn ⟨fn,.mk k2 n2 u2 e2 p2 b2,ff,fa⟩)]).length=j:=⟨_,rfl⟩
      obtain⟨j18,hj18⟩:∃ j,(J2++[Blk.cells (Jp (.mk [102,105,101,108,100] n ty [.mk [116,104,105,115] n0 l0 ty0 a0,y] b e a))]).length=j:=⟨_,rfl⟩
      obtain⟨j17,hj17⟩:∃ j,J2.length=j:=⟨_,rfl⟩
      rw[hj21]at hb21b |-;rw[hj18];rw[hj17]at hb17b hX3 hjl3 |-;clear hj21 hj18 hj17;obtain⟨rw6',hR6,hd⟩:=YP L C (x:=y) (t:=.mk k2 n2 u2 e2 p2 b2) (rb:=H1.length+2) (T1 (Blk.cells (Jc ⟨cn,cif,csu,cab,cfs,cvs,ct,cms,cat⟩)::Blk.cells [.list s1 t1 (ps.map Jf),.bool khs,.list s4 t4 (Ja done0),vb,.int .i64 kat]::Blk.cells (JC nt r3)::J3)) (Jem hlt rfl) hr3 O O hwy hX (rw:=rw5);refine Kk hd rfl rfl rfl ?_ ?_
      ·intro c hc;rw[hc]at hod;replace hod:VS cs U ⟨cn,cif,csu,cab,cfs,cvs,ct,cms,cat⟩ r2 [] kbd=.error c:=hod;rw[hod]at hres;exact KM (pan c _ _ _ hres ((hR.trans hR3).trans hR6))
      intro x' v hvx hc;change v=.agg (Jb x')at hvx;subst hvx;rw[hc]at hod;clear hd;replace hli:=hli.ext hR6;replace hR3:=hR3.trans hR6;refine JQ ?_;refine Qp ?_;refine Q1 rfl (vs:=[.agg (Jb (XC (.mk [116,104,105,115] n0 l0 ty0 a0) (Yr cn))),.agg (Jb x')]) rfl ?_;refine JTs (JG _) (JG x') ?_;obtain⟨J4,hJ4⟩:∃ J4,J3.set j17 (Blk.cells [.str [102,105,101,108,100],.str n,Kp 6 (Jo ty),.list 5 .full [Jb (XC (.mk [116,104,105,115] n0 l0 ty0 a0) (Yr cn)),Jb x'],Kp 7 (Jg b),Kp 7 (Jg e),.int .i64 a])=J4:=⟨_,rfl⟩
      have hX4:(Blk.cells (Jc ⟨cn,cif,csu,cab,cfs,cvs,ct,cms,cat⟩)::Blk.cells [.list s1 t1 (ps.map Jf),.bool khs,.list s4 t4 (Ja done0),vb,.int .i64 kat]::Blk.cells (JC nt r3)::J4)[j17+3]? = some (Blk.cells [.str [102,105,101,108,100],.str n,Kp 6 (Jo ty),.list 5 .full [Jb (XC (.mk [116,104,105,115] n0 l0 ty0 a0) (Yr cn)),Jb x'],Kp 7 (Jg b),Kp 7 (Jg e),.int .i64 a]):=by show J4[j17]? = _;rw[<- hJ4,A3 (Ac.1 hX3).1]
      have hmp4:J4[JX.length]? = some (.map (JaM (set++[n]))):=by rw[<- hJ4,Bf O,hmp3]
      have hs4:(Blk.cells (Jc ⟨cn,cif,csu,cab,cfs,cvs,ct,cms,cat⟩)::Blk.cells [.list s1 t1 (ps.map Jf),.bool khs,.list s4 t4 (Ja done0),vb,.int .i64 kat]::Blk.cells (JC nt r3)::J3).set (j17+3) (Blk.cells [.str [102,105,101,108,100],.str n,Kp 6 (Jo ty),.list 5 .full [Jb (XC (.mk [116,104,105,115] n0 l0 ty0 a0) (Yr cn)),Jb x'],Kp 7 (Jg b),Kp 7 (Jg e),.int .i64 a])=Blk.cells (Jc ⟨cn,cif,csu,cab,cfs,cvs,ct,cms,cat⟩)::Blk.cells [.list s1 t1 (ps.map Jf),.bool khs,.list s4 t4 (Ja done0),vb,.int .i64 kat]::Blk.cells (JC nt r3)::J4:=congrArg (λz=>_::_::_::z) hJ4;refine JbF rfl rfl ?_;refine Vh ?_;refine VG rfl rfl rfl ?_;refine JcI ?_;refine zsO ?_ hlt hb17b ⟨rfl,rfl,Ba rfl⟩ rfl hs4 (.inl O);refine JQ ?_;refine' JM;clear hJ4 hX3 hmp3;have hcX:Jh [.str [102,105,101,108,100],.str n,Kp 6 (Jo ty),.list 5 .full [Jb (XC (.mk [116,104,105,115] n0 l0 ty0 a0) (Yr cn)),Jb x'],Kp 7 (Jg b),Kp 7 (Jg e),.int .i64 a]=Jp (.mk [102,105,101,108,100] n ty [XC (.mk [116,104,105,115] n0 l0 ty0 a0) (Yr cn),x'] b e a):=by simp only[Jh,Ap,AC,Jq,Jp];rfl
      rw[hcX];refine Qp ?_;refine Q1 rfl (vs:=[.agg (Jp (.mk [102,105,101,108,100] n ty [XC (.mk [116,104,105,115] n0 l0 ty0 a0) (Yr cn),x'] b e a))]) rfl ?_;refine Z2 (Kx _) ?_;refine JT ?_;refine JW rfl rfl rfl ?_;refine QB hli hR3 AH AH O ?_;intro l4 rw7 hl4 hR7;refine JQ ?_;refine' JM;refine⟨kbd.length-(q+1),O,q+1,done++[(.mk [102,105,101,108,100] n ty [XC (.mk [116,104,105,115] n0 l0 ty0 a0) (Yr cn),x'] b e a)],set++[n],r3,_,l4,rw7,rfl,hmp4,O,Fu,by simp only[AG,Cu];omega,hr3,O,hrl3,?_,hR7,?_,rfl,FI⟩
      ·rw[Qh,An,<- Qh];exact hl4
      ·rw[hod];show((VS cs U ⟨cn,cif,csu,cab,cfs,cvs,ct,cms,cat⟩ r3 (set++[n]) (kbd.drop (q+1))).bind λz=>.ok ((.mk [102,105,101,108,100] n ty [XC (.mk [116,104,105,115] n0 l0 ty0 a0) (Yr cn),x'] b e a:Sm)::z.1,z.2)).bind _=_;cases VS cs U ⟨cn,cif,csu,cab,cfs,cvs,ct,cms,cat⟩ r3 (set++[n]) (kbd.drop (q+1)) <;> simp[Except.bind]
    ·rw[if_pos (.inl hoc)]at hod;replace hod:VS cs U ⟨cn,cif,csu,cab,cfs,cvs,ct,cms,cat⟩ r2 [] kbd=.error (137,a):=hod;rw[hod]at hres;refine' JM;refine KV (Kr L.toLibW _ _ _ _) rfl rfl rfl ?_;exact KM (pan _ _ _ _ hres (hR.trans hR3))
 ·rw[AU O,VS]at hod;replace hod:VS cs U ⟨cn,cif,csu,cab,cfs,cvs,ct,cms,cat⟩ r2 [] kbd=.ok (done++[],set):=hod;rw[Ar]at hod;rw[hod]at hres;replace hres:res=if set.length<cfs.length then Kz 137 kat else .ok ⟨ps,khs,done0,done,kat⟩:=hres
  have hcn3:=hli.isL.canon;obtain⟨s5,t5,rfl,-,-⟩:=hli.isL.ex;have hml:(Blk.cells (Jc ⟨cn,cif,csu,cab,cfs,cvs,ct,cms,cat⟩)::Blk.cells [.list s1 t1 (ps.map Jf),.bool khs,.list s4 t4 (Ja done0),vb,.int .i64 kat]::Blk.cells (JC nt r3)::J)[JX.length+3]? = some (.map (JaM set)):=hmp;have hcc:Jh [.list s1 t1 (ps.map Jf),.bool khs,.list s4 t4 (Ja done0),.list s5 t5 (Jg done),.int .i64 kat]=Jw ⟨ps,khs,done0,done,kat⟩:=by simp only[Jh,Ap,AC,hcn1,hcn2,hcn3,Jw];rfl
  have hlm:(JaM set).length=set.length:=by simp[JaM]
  replace hR:=hR.trans hR3;have hfl:(cfs.map Jn).length=cfs.length:=Ak _;rw[<- hlm]at hres;refine' JM;refine JSg (j:=JX.length+3) hlt rfl rfl hml ?_;refine' JM
  ·rw[if_pos O]at hres;refine KV (Kr L.toLibW _ _ _ _) rfl rfl rfl ?_;exact pan _ _ _ _ hres hR
  ·rw[if_neg O]at hres;rw[hres,hcc];exact Ju hH1 rfl (QL _) ⟨_,hR,rfl,rfl⟩
theorem Jwi(L:LibY pr F){cs:List Cls}{U:List (List Nat)}(C:Cst cs U){H:List Blk}{rw:List Nat}{nt:Nat}{c:Cls}{k:Ctr}(T:TbU H nt cs U)(hcm:c∈cs)(hK:KtOk k) :
  ∃ rw',Rx rw rw'/\Det pr F 119 [.ptr nt 0,.agg (Jc c),.agg (Jw k)] ⟨H,rw⟩ (KR Jwg (Jbq cs U c k)) ⟨H,rw'⟩:=by
 have hm:=L.hm;suffices h:Wp pr F 119 [.ptr nt 0,.agg (Jc c),.agg (Jw k)] ⟨H,rw⟩ λr' S'=>∃ rw',Rx rw rw'/\r'=KR Jwg (Jbq cs U c k)/\S'=⟨H,rw'⟩ by obtain⟨r',S',hd,rw',h1,rfl,rfl⟩:=h.det hm;exact⟨rw',h1,hd⟩
 have hR:Rx rw rw:=Rx.rfl;obtain⟨hKp,hKs,hKb,hKw,hKv,hKz,hKa⟩:=hK;obtain⟨kp,khs,ksu,kbd,kat⟩:=k;simp only at hKp hKs hKb hKw hKv hKz hKa;have hr0:RmOk {Vy with inNew:=true}:=⟨.inl rfl,λv hv=>Fd,λv hv=>Fd⟩
 have hfw:=C.few.mem hcm;have hres:Jbq cs U c ⟨kp,khs,ksu,kbd,kat⟩=(XE cs U {Vy with inNew:=true} kp).bind λx=>(QH cs U x.1 none ksu).bind λs=>
  if(khs && c.super == []) || !KS cs U s (VW cs c.super)then Kz 132 kat else
  (VS cs U c x.1 [] kbd).bind λy=>if y.2.length<c.fields.length then Kz 137 kat else .ok ⟨x.2,khs,s,y.1,kat⟩:=rfl
 generalize Jbq cs U c ⟨kp,khs,ksu,kbd,kat⟩=res at *;refine Jt hm L.f119.1 L.f119.2 rfl ?_;refine Kt hm ?_;unfold JvD;show At pr F H.length (fin _ H.length _) _ _ _ _;refine Ku hm ?_;intro H1 hH1 hlen hlt;have T1:=λM=>T.keep (JF hH1 (.cells Jbu) M);have pan:∀(x:Int×Int) (e:KC) (M:List Blk) (rw':List Nat),res=.error x->Rx rw rw'->fin [.cell 6 (some 5)] H.length (λr' S'=>∃ rw',Rx rw rw'/\r'=KR Jwg res/\S'=⟨H,rw'⟩) (.panic (Xs x)) e ⟨hp H1 H.length (.cells Jbu) M,rw'⟩:=λx e M rw' hre hr'=>FB
 refine' JM;refine Kj (q:=H.length) rfl rfl (Kh hlt) ?_;refine' JM;obtain⟨v1,rw2,hi1,hR2,hd⟩:=Joo L C (l:=kp) (r:={Vy with inNew:=true}) (T1 [.cells (Jc c),.cells (Jw ⟨kp,khs,ksu,kbd,kat⟩),.cells [.nilp,.str [],.list 0 .full [],.bool false,.list 0 .full [],.bool false]]) hr0 hKp Ck hKw (rw:=rw);refine Kk hd rfl rfl rfl ?_ ?_
 ·intro c hc;rw[hc]at hres;exact pan c _ _ _ hres (hR.trans hR2)
 intro x v hvx hc;rw[hc]at hres;change v=.tup [.agg (JC nt x.1),v1]at hvx;subst hvx;replace hi1:=hi1 x hc;clear hd;replace hR:=hR.trans hR2;obtain⟨r2,ps⟩:=x;obtain⟨hr2,hrl2,hrt2,-⟩:=Jbr _ hr0 (λp hp=>⟨hKp p hp,by have:=Q3 (w:=V0) hp;simp only[V0]at this;omega⟩) hc;have hpl:=Jb0 (w:=V0) (λx=>Ca) kp;simp only[Vy,Af,AF]at hr2 hrl2 hrt2 hi1;have hcn1:=hi1.canon;obtain⟨s1,t1,rfl,-,-⟩:=hi1.ex;replace hres:res=(QH cs U r2 none ksu).bind λs=>
  if(khs && c.super == []) || !KS cs U s (VW cs c.super)then Kz 132 kat else
  (VS cs U c r2 [] kbd).bind λy=>if y.2.length<c.fields.length then Kz 137 kat else .ok ⟨ps,khs,s,y.1,kat⟩:=hres
 refine JQ ?_;refine' JM;have hkx:=JbO _ hKs;have hvx:=Je3 ksu;have hel:=JV ksu;have hvl:=Zf ksu;refine JB hm (λmm e S'=>∃(q:Nat) (done:List Xp) (J:List Blk) (lv:AV) (rw3:List Nat),S'=⟨hp H1 H.length (.cells Jbu) (.cells (Jc c)::.cells (.list s1 t1 (ps.map Jf)::List.drop 1 (Jw ⟨kp,khs,ksu,kbd,kat⟩))::.cells (JC nt r2)::J),rw3⟩/\q<=ksu.length/\done.length=q/\(∀ y∈done,Zm (Q4 y))/\Lst rw2 5 lv (Ja done) rw3/\Rx rw2 rw3 /\
  QH cs U r2 none ksu=((QH cs U r2 none (ksu.drop q)).bind λm=>.ok (done++m))/\mm=ksu.length-q /\
  e=[(0,.ptr nt 0),(4,.ptr (H1.length+0) 0),(5,.ptr (H1.length+1) 0),(6,.ptr H.length 0),(7,.ptr (H1.length+2) 0),(9,lv),(33,Kp 5 (Ja ksu)),(34,.int .i64 ((Ja ksu).length:Int)),(35,.int .i64 q)]) ?_ (m:=ksu.length) ⟨0,[],[],_,rw2,rfl,O,rfl,λy hy=>(by cases hy),Lst.nil,Rx.rfl,?_,rfl,rfl⟩
 rotate_left
 ·simp only[AA,Au];cases QH cs U r2 none ksu <;> rfl
 rintro mm e S' ⟨q,done,J,lv,rw3,rfl,hq0,hdl,hdx,hli,hR3,hod,rfl,rfl⟩;have hdl2:=JV done;by_cases hq:q<ksu.length
 ·obtain⟨x,hx2⟩:∃ x,ksu[q]? = some x:=⟨_,Ab hq⟩
  have hxr:(Ja ksu)[q]? = some (Jb x):=by rw[KB,Ax,hx2];rfl
  have hl5:Kp 5 (Ja ksu)=.list 5 .dead (Ja ksu):=Kf (i:=q) O;rw[Jol hx2]at hod;have hxm:=Aq hx2;have hxw:=ZJ hkx hxm;have hxv:=JaI hxm;rw[hl5];refine' JM;obtain⟨rw6,hR6,hd⟩:=Jju L C (x:=x) (rb:=H1.length+2) (T1 (.cells (Jc c)::.cells (.list s1 t1 (ps.map Jf)::List.drop 1 (Jw ⟨kp,khs,ksu,kbd,kat⟩))::.cells (JC nt r2)::(J++[.cells (Jb x)]))) (Jem hlt rfl) hr2 O O hxw (rw:=rw3);refine Kk hd rfl rfl rfl ?_ ?_
  ·intro c hc;rw[hod,hc]at hres;exact KM (pan c _ _ _ hres ((hR.trans hR3).trans hR6))
  intro x' v hvx hc;change v=.agg (Jb x')at hvx;subst hvx;have hX:=C.of hr2 hxw O hc;rw[hc]at hod;clear hd;replace hli:=hli.ext hR6;replace hR3:=hR3.trans hR6;refine JQ ?_;refine Qp ?_;refine Q1 rfl (vs:=[.agg (Jb x')]) rfl ?_;refine Z2 (JG x') ?_;refine' JM;refine JT ?_;refine JW rfl rfl rfl ?_;refine QB hli hR3 AH AH O ?_;intro l4 rw7 hl4 hR7;refine JQ ?_;refine' JM;refine⟨ksu.length-(q+1),O,q+1,done++[x'],_,l4,rw7,rfl,O,Fu,?_,Fv,hR7,?_,rfl,Fc⟩
  ·intro y hy;rcases AM.1 hy with hy |hy
   ·exact hdx y hy
   ·rw[AN.1 hy];exact hX
  ·rw[hod];show((QH cs U r2 none (ksu.drop (q+1))).bind λl'=>.ok (x'::l')).bind _=_;cases QH cs U r2 none (ksu.drop (q+1)) <;> simp[Except.bind]
 ·rw[AU O,QH]at hod;change QH cs U r2 none ksu=.ok (done++[])at hod;rw[Ar]at hod;rw[hod]at hres;replace hres:res=if(khs && c.super == []) || !KS cs U done (VW cs c.super)then Kz 132 kat else
   (VS cs U c r2 [] kbd).bind λy=>if y.2.length<c.fields.length then Kz 137 kat else .ok ⟨ps,khs,done,y.1,kat⟩:=hres
  have hcn2:=hli.isL.canon;have hfi:=hli.isL.q;obtain⟨s4,t4,rfl,-,-⟩:=hli.isL.ex;replace hR:=hR.trans hR3;obtain⟨cn,cif,csu,cab,cfs,cvs,ct,cms,cat⟩:=c;refine' JM;obtain⟨rw5,hR5,hd⟩:=TbU.ctorOf L.toLibW (T1 (.cells (Jc ⟨cn,cif,csu,cab,cfs,cvs,ct,cms,cat⟩)::.cells [.list s1 t1 (ps.map Jf),.bool khs,.list s4 t4 (Ja done),Kp 7 (Jg kbd),.int .i64 kat]::.cells (JC nt r2)::(J++[.cells (Jw Jjt)]))) csu (rw:=rw3);refine Je rfl rfl rfl ?_;refine Ks hd ?_;replace hR:=hR.trans hR5;clear hd;have hcp:VW cs csu=((ZT cs csu).getD Jjt).params:=by unfold VW;cases ZT cs csu <;> rfl
  have hco:=JrK C.ok csu;simp only at hres;rw[hcp]at hco hres;simp only[Jek];generalize (ZT cs csu).getD Jjt=kc at *;generalize (ZT cs csu).isSome=ib at *;obtain⟨kp2,ks2,ksu2,kb2,ka2⟩:=kc;simp only at hco hres;refine JQ ?_;have htk:∀ rw5,∃ rw6,Rx rw5 rw6/\Det pr F 181 [.ptr (H1.length+2) 0,.list s4 t4 (Ja done),Kp 8 (kp2.map Jf)] ⟨hp H1 H.length (.cells Jbu) (.cells (Jc ⟨cn,cif,csu,cab,cfs,cvs,ct,cms,cat⟩)::.cells [.list s1 t1 (ps.map Jf),.bool khs,.list s4 t4 (Ja done),Kp 7 (Jg kbd),.int .i64 kat]::.cells (JC nt r2)::(J++[.cells (Jw ⟨kp2,ks2,ksu2,kb2,ka2⟩)])),rw5⟩ (.ret (.bool (KS cs U done kp2))) ⟨_,rw6⟩:=λrw5=>TbU.takes L.toLibW (T1 _) (Jem hlt rfl) hfi (YM (rows:=kp2.map Jf)) hdx hco O;have next:∀(P:Prop) (bk:Bool),(bk=false->KS cs U done kp2=false->P)->(bk=false->KS cs U done kp2=true->P)->bk=false->P:=λP bk h1 h2 hb=>by
   cases hf:KS cs U done kp2 with
   | false=>exact h1 hb hf
   | true=>exact h2 hb hf
  have hsw:∃ bk,(khs && csu == [])=bk:=⟨_,rfl⟩
  obtain⟨bk,hbk⟩:=hsw;rw[hbk]at hres;cases bk with
  | true=>
   obtain⟨rfl,hcs⟩:khs=true/\csu=[]:=by simpa using hbk
   subst hcs;replace hres:res=Kz 132 kat:=hres;refine' JM;refine KV (Kr L.toLibW _ _ _ _) rfl rfl rfl ?_;exact pan _ _ _ _ hres hR
  | false=>
   obtain⟨rw6,hR6,hd⟩:=htk rw5;cases hf:KS cs U done kp2 with
   | false=>
    rw[hf]at hres hd;replace hres:res=Kz 132 kat:=hres;cases khs with
    | true=>
     have hcs:csu≠[]:=by simpa using hbk
     refine' JM;refine KV (Kr L.toLibW _ _ _ _) rfl rfl rfl ?_;exact pan _ _ _ _ hres (hR.trans hR6)
    | false=>refine' JM;refine KV (Kr L.toLibW _ _ _ _) rfl rfl rfl ?_;exact pan _ _ _ _ hres (hR.trans hR6)
   | true=>
    rw[hf]at hres hd;replace hres:res=(VS cs U ⟨cn,cif,csu,cab,cfs,cvs,ct,cms,cat⟩ r2 [] kbd).bind λy=>if y.2.length<cfs.length then Kz 137 kat else .ok ⟨ps,khs,done,y.1,kat⟩:=hres
    have hgo:∀(P:Prop),(khs=false->P)->(khs=true->csu≠[]->P)->P:=λP h1 h2=>by
     cases khs with
     | true=>exact h2 rfl (by simpa using hbk)
     | false=>exact h1 rfl
    refine hgo _ (λh=>?_) (λh hcs=>?_);all_goals
     subst h;refine' JM;clear hd;replace hR:=hR.trans hR6
    all_goals
     obtain⟨JX,hJX⟩:∃ JX,J++[Blk.cells (Jw ⟨kp2,ks2,ksu2,kb2,ka2⟩)]=JX:=⟨_,rfl⟩
     rw[hJX];clear hJX htk hco hfi hli hdl2 hdx hdl hod hq hq0;refine Jq7 (M':=_::_::_::(JX++[.map []])) (q:=JX.length+3) hlt rfl rfl rfl ?_;refine JQ ?_;refine' JM;exact JDq L C hH1 hlt T1 pan (JbU hcm C.ok.wt).1 (by have:=T.lt;omega) hKb hr2 O hKz (by rw[hrt2];exact Dk _) hcn1 hcn2 hR hres
def Jwj(c:Cls):AV:=.agg (Jc c)
def Jj1:List AV:=[.str [],.bool false,.str [],.list 0 .full [],.list 0 .full [],.list 0 .full [],.list 0 .full [],.list 0 .full [],.int .i64 0]
theorem Jfq{α:Type}{f:α->Er α}{l:List α}{q:Nat}{x:α}(h:l[q]? = some x):QZ f (l.drop q)=(f x).bind λy=>(QZ f (l.drop (q+1))).bind λm=>.ok (y::m):=by obtain⟨hl,he⟩:=Ac.1 h;rw[AY hl,he,QZ]
theorem Jmz(L:LibY pr F){cs:List Cls}{U:List (List Nat)}(C:Cst cs U){H H1:List Blk}{rw rw6:List Nat}{nt:Nat}{cn:Jk}{cif:Bool}{csu:Jk}{cab:List Jk}{cfs fs:List Fld}{cvs is:List Xp}{ct:List Ctr}{cms:List Mth}{cat:Int}{own:Room}
  {s1 s2:Nat} {t1 t2:Tag} {J:List Blk} {res:Er Cls} (hH1:H1=H++[.cells Jj1]) (hlt:H.length<H1.length) (T1:∀ M,TbU (hp H1 H.length (.cells Jj1) M) nt cs U)
  (pan:∀(x:Int×Int) (e:KC) (M:List Blk) (rw':List Nat),res=.error x->Rx rw rw'->fin [.cell 4 (some 9)] H.length (λr' S'=>∃ rw',Rx rw rw'/\r'=KR Jwj res/\S'=⟨H,rw'⟩) (.panic (Xs x)) e ⟨hp H1 H.length (.cells Jj1) M,rw'⟩)
  (hcm:⟨cn,cif,csu,cab,cfs,cvs,ct,cms,cat⟩∈cs) (hro:RmOk own) (hov:own.vars.length=0) (hor:own.ret=[]) (hc6:∀ x∈ct,KtOk x) (hc7:∀ x∈cms,MtOk x) (hkl:ct.length<=64800000) (hml:cms.length<=64800000)
  (hcn1:canon1 (.list s1 t1 (fs.map Jn))=Kp 9 (fs.map Jn)) (hcn2:canon1 (.list s2 t2 (Ja is))=Kp 5 (Ja is)) (hR:Rx rw rw6)
  (hres:res=(QZ (Jbq cs U ⟨cn,cif,csu,cab,cfs,cvs,ct,cms,cat⟩) ct).bind λks=>(QZ (Jbp cs U own) cms).bind λms=>.ok ⟨cn,cif,csu,cab,fs,is,ks,ms,cat⟩) :
  At pr F H.length (fin [.cell 4 (some 9)] H.length λr' S'=>∃ rw',Rx rw rw'/\r'=KR Jwj res/\S'=⟨H,rw'⟩) (IC.loop [0,3,4,5,6,95,96,97] (JvE.seq ((IC.cond (.tmp 98) IC.skip (IC.exit 4)).seq ((IC.block 5 (JvF.seq JvG)).seq JvH)))) [Fr.blk 4,Fr.code ((JvI.seq (IC.block 6 (IC.loop [4,5,6,112,113,114] (JvJ.seq ((IC.cond (.tmp 115) IC.skip (IC.exit 6)).seq ((IC.block 7 (JvK.seq JvL)).seq JvM)))))).seq (JvN.seq IC.ret))] [(0,.ptr nt 0),(3,.ptr (H1.length+0) 0),(4,.ptr H.length 0),(5,.ptr (H1.length+1) 0),(6,.ptr (H1.length+2) 0),(95,Kp 5 (ct.map Jw)),(96,.int .i64 ((ct.map Jw).length:Int)),(97,.int .i64 0)]
   ⟨hp H1 H.length (.cells Jj1) (.cells (Jc ⟨cn,cif,csu,cab,cfs,cvs,ct,cms,cat⟩)::.cells (JC nt own)::.cells [.str cn,.bool cif,.str csu,Kp 1 (cab.map Qy),.list s1 t1 (fs.map Jn),.list s2 t2 (Ja is),.list 0 .full [],.list 0 .full [],.int .i64 cat]::J),rw6⟩:=by
 have hm:=L.hm;have hlk:(ct.map Jw).length=ct.length:=Ak _;have hlm:(cms.map Jm).length=cms.length:=Ak _;obtain⟨kF,hkF⟩:∃ kF,kF=Jbq cs U ⟨cn,cif,csu,cab,cfs,cvs,ct,cms,cat⟩:=⟨_,rfl⟩
 obtain⟨mF,hmF⟩:∃ mF,mF=Jbp cs U own:=⟨_,rfl⟩
 rw[<- hkF,<- hmF]at hres;refine JB hm (λmm e S'=>∃(q:Nat) (ks:List Ctr) (J:List Blk) (lv:AV) (rw3:List Nat),S'=⟨hp H1 H.length (.cells Jj1) (.cells (Jc ⟨cn,cif,csu,cab,cfs,cvs,ct,cms,cat⟩)::.cells (JC nt own)::.cells [.str cn,.bool cif,.str csu,Kp 1 (cab.map Qy),.list s1 t1 (fs.map Jn),.list s2 t2 (Ja is),lv,.list 0 .full [],.int .i64 cat]::J),rw3⟩/\q<=ct.length/\ks.length=q/\Lst rw6 5 lv (ks.map Jw) rw3/\Rx rw6 rw3 /\
  QZ kF ct=((QZ kF (ct.drop q)).bind λm=>.ok (ks++m))/\mm=ct.length-q /\
  e=[(0,.ptr nt 0),(3,.ptr (H1.length+0) 0),(4,.ptr H.length 0),(5,.ptr (H1.length+1) 0),(6,.ptr (H1.length+2) 0),(95,Kp 5 (ct.map Jw)),(96,.int .i64 ((ct.map Jw).length:Int)),(97,.int .i64 q)]) ?_ (m:=ct.length) ⟨0,[],J,_,rw6,rfl,O,rfl,Lst.nil,Rx.rfl,?_,rfl,rfl⟩
 rotate_left
 ·simp only[AA,Au];cases QZ kF ct <;> rfl
 rintro mm e S' ⟨q,ks,J,lv,rw3,rfl,hq0,hdl,hli,hR3,hod,rfl,rfl⟩;have hdl2:(ks.map Jw).length=ks.length:=Ak _;by_cases hq:q<ct.length
 ·obtain⟨x,hx⟩:∃ x,ct[q]? = some x:=⟨_,Ab hq⟩
  have hxr:(ct.map Jw)[q]? = some (Jw x):=E7
  have hl5:Kp 5 (ct.map Jw)=.list 5 .dead (ct.map Jw):=Kf (i:=q) O;rw[Jfq hx]at hod;have hxm:=Aq hx;rw[hl5];refine' JM;obtain⟨rw5,hR5,hd⟩:=Jwi L C (k:=x) (T1 (.cells (Jc ⟨cn,cif,csu,cab,cfs,cvs,ct,cms,cat⟩)::.cells (JC nt own)::.cells [.str cn,.bool cif,.str csu,Kp 1 (cab.map Qy),.list s1 t1 (fs.map Jn),.list s2 t2 (Ja is),lv,.list 0 .full [],.int .i64 cat]::(J++[.cells (Jw x)]))) hcm (hc6 x hxm) (rw:=rw3);rw[<- hkF]at hd;refine Kk hd rfl rfl rfl ?_ ?_
  ·intro c hc;rw[hc]at hod;replace hod:QZ kF ct=.error c:=hod;rw[hod]at hres;exact KM (pan c _ _ _ hres ((hR.trans hR3).trans hR5))
  intro x' v hvx hc;rw[hc]at hod;change v=.agg (Jw x')at hvx;subst hvx;clear hd;replace hli:=hli.ext hR5;replace hR3:=hR3.trans hR5;refine JQ ?_;refine Qp ?_;refine Q1 rfl (vs:=[.agg (Jw x')]) rfl ?_;refine Z2 (QL x') ?_;refine JT ?_;refine JW rfl rfl rfl ?_;refine QB hli hR3 AH AH O ?_;intro l4 rw7 hl4 hR7;obtain⟨s4,t4,rfl,-,-⟩:=hl4.isL.ex;refine JQ ?_;refine' JM;refine⟨ct.length-(q+1),O,q+1,ks++[x'],_,_,rw7,rfl,O,Fu,Ek,hR7,?_,rfl,Fc⟩;rw[hod];show((QZ kF (ct.drop (q+1))).bind λm=>.ok (x'::m)).bind _=_;cases QZ kF (ct.drop (q+1)) <;> simp[Except.bind]
 ·rw[AU O,QZ]at hod;replace hod:QZ kF ct=.ok (ks++[]):=hod;rw[Ar]at hod;rw[hod]at hres;replace hres:res=(QZ mF cms).bind λms=>.ok ⟨cn,cif,csu,cab,fs,is,ks,ms,cat⟩:=hres;have hcn3:=hli.isL.canon;obtain⟨s3,t3,rfl,-,-⟩:=hli.isL.ex;replace hR:=hR.trans hR3;refine' JM;clear hod hli hR3 hq hq0 hdl2 hdl;refine JB hm (λmm e S'=>∃(q:Nat) (ms:List Mth) (J:List Blk) (lv:AV) (rw4:List Nat),S'=⟨hp H1 H.length (.cells Jj1) (.cells (Jc ⟨cn,cif,csu,cab,cfs,cvs,ct,cms,cat⟩)::.cells (JC nt own)::.cells [.str cn,.bool cif,.str csu,Kp 1 (cab.map Qy),.list s1 t1 (fs.map Jn),.list s2 t2 (Ja is),.list s3 t3 (ks.map Jw),lv,.int .i64 cat]::J),rw4⟩/\q<=cms.length/\ms.length=q/\Lst rw3 11 lv (ms.map Jm) rw4/\Rx rw3 rw4 /\
   QZ mF cms=((QZ mF (cms.drop q)).bind λm=>.ok (ms++m))/\mm=cms.length-q /\
   e=[(4,.ptr H.length 0),(5,.ptr (H1.length+1) 0),(6,.ptr (H1.length+2) 0),(112,Kp 11 (cms.map Jm)),(113,.int .i64 ((cms.map Jm).length:Int)),(114,.int .i64 q)]) ?_ (m:=cms.length) ⟨0,[],J,_,rw3,rfl,O,rfl,Lst.nil,Rx.rfl,?_,rfl,rfl⟩
  rotate_left
  ·simp only[AA,Au];cases QZ mF cms <;> rfl
  rintro mm e S' ⟨q,ms,J,lv,rw4,rfl,hq0,hdl,hli,hR3,hod,rfl,rfl⟩;have hdl2:(ms.map Jm).length=ms.length:=Ak _;by_cases hq:q<cms.length
  ·obtain⟨x,hx⟩:∃ x,cms[q]? = some x:=⟨_,Ab hq⟩
   have hxr:(cms.map Jm)[q]? = some (Jm x):=E7
   have hl5:Kp 11 (cms.map Jm)=.list 11 .dead (cms.map Jm):=Kf (i:=q) O;rw[Jfq hx]at hod;have hxm:=Aq hx;rw[hl5];refine' JM;try rw[Xd]
   obtain⟨rw5,hR5,hd⟩:=Jwf L C (m:=x) (T1 (.cells (Jc ⟨cn,cif,csu,cab,cfs,cvs,ct,cms,cat⟩)::.cells (JC nt own)::.cells [.str cn,.bool cif,.str csu,Kp 1 (cab.map Qy),.list s1 t1 (fs.map Jn),.list s2 t2 (Ja is),.list s3 t3 (ks.map Jw),lv,.int .i64 cat]::(J++[.cells (Jm x)]))) hro (hc7 x hxm) O hor (rw:=rw4);rw[<- hmF]at hd;refine Kk hd rfl rfl rfl ?_ ?_
   ·intro c hc;rw[hc]at hod;replace hod:QZ mF cms=.error c:=hod;rw[hod]at hres;exact KM (pan c _ _ _ hres ((hR.trans hR3).trans hR5))
   intro x' v hvx hc;rw[hc]at hod;change v=.agg (Jm x')at hvx;subst hvx;clear hd;replace hli:=hli.ext hR5;replace hR3:=hR3.trans hR5;refine JQ ?_;refine Qp ?_;refine Q1 rfl (vs:=[.agg (Jm x')]) rfl ?_;refine Z2 (Qa x') ?_;refine JT ?_;refine JW rfl rfl rfl ?_;refine QB hli hR3 AH AH O ?_;intro l4 rw7 hl4 hR7;obtain⟨s4,t4,rfl,-,-⟩:=hl4.isL.ex;refine JQ ?_;refine' JM;refine⟨cms.length-(q+1),O,q+1,ms++[x'],_,_,rw7,rfl,O,Fu,Ek,hR7,?_,rfl,Fc⟩;rw[hod];show((QZ mF (cms.drop (q+1))).bind λm=>.ok (x'::m)).bind _=_;cases QZ mF (cms.drop (q+1)) <;> simp[Except.bind]
  ·rw[AU O,QZ]at hod;replace hod:QZ mF cms=.ok (ms++[]):=hod;rw[Ar]at hod;rw[hod]at hres;replace hres:res=.ok ⟨cn,cif,csu,cab,fs,is,ks,ms,cat⟩:=hres;have hcn4:=hli.isL.canon;obtain⟨s5,t5,rfl,-,-⟩:=hli.isL.ex;replace hR:=hR.trans hR3;have hcc:Jh [.str cn,.bool cif,.str csu,Kp 1 (cab.map Qy),.list s1 t1 (fs.map Jn),.list s2 t2 (Ja is),.list s3 t3 (ks.map Jw),.list s5 t5 (ms.map Jm),.int .i64 cat]=Jc ⟨cn,cif,csu,cab,fs,is,ks,ms,cat⟩:=by simp only[Jh,Ap,AC,hcn1,hcn2,hcn3,hcn4,Jq,Jc];rfl
   refine' JM;rw[hcc,hres];exact Ju hH1 rfl (KT _) ⟨_,hR,rfl,rfl⟩
theorem Jwk(L:LibY pr F){cs:List Cls}{U:List (List Nat)}(C:Cst cs U){H:List Blk}{rw:List Nat}{nt:Nat}{c:Cls}(T:TbU H nt cs U)(hcm:c∈cs)(hok:JcG c)(hw:Xx c<=64800000) :
  ∃ rw',Rx rw rw'/\Det pr F 77 [.ptr nt 0,.agg (Jc c)] ⟨H,rw⟩ (KR Jwj (Jci cs U c)) ⟨H,rw'⟩:=by
 have hm:=L.hm;suffices h:Wp pr F 77 [.ptr nt 0,.agg (Jc c)] ⟨H,rw⟩ λr' S'=>∃ rw',Rx rw rw'/\r'=KR Jwj (Jci cs U c)/\S'=⟨H,rw'⟩ by obtain⟨r',S',hd,rw',h1,rfl,rfl⟩:=h.det hm;exact⟨rw',h1,hd⟩
 have hR:Rx rw rw:=Rx.rfl;obtain⟨cn,cif,csu,cab,cfs,cvs,ct,cms,cat⟩:=c;obtain⟨hc1,hc2,hc3,hc4,hc5,hc6,hc7⟩:=hok;simp only at hc1 hc2 hc3 hc4 hc5 hc6 hc7;have hfw:=C.few.mem hcm;simp only[Xx]at hw;have hvx:=Je3 cvs;have hwx:=JbO _ hc5;have hvl:=Zf cvs;have hro:RmOk {Vy with this:=cn}:=⟨.inr hc1,λv hv=>Fd,λv hv=>Fd⟩
 obtain⟨own,hown⟩:∃ own:Room,own={Vy with this:=cn}:=⟨_,rfl⟩
 rw[<- hown]at hro;have hov:own.vars.length=0:=by rw[hown];rfl
 have hor:own.ret=[]:=by rw[hown];rfl
 have hres:Jci cs U ⟨cn,cif,csu,cab,cfs,cvs,ct,cms,cat⟩=(QZ (λf:Fld=>(tyF cs U own f.type).bind λt=>.ok {f with type:=t}) cfs).bind λfs=>(Qg cs U own cvs).bind λis=>
  if !cif && ct.isEmpty && !cfs.isEmpty then Kz 137 cat else if !cif && ct.isEmpty && !(VW cs csu).isEmpty then Kz 132 cat else
  (QZ (Jbq cs U ⟨cn,cif,csu,cab,cfs,cvs,ct,cms,cat⟩) ct).bind λks=>(QZ (Jbp cs U own) cms).bind λms=>.ok ⟨cn,cif,csu,cab,fs,is,ks,ms,cat⟩:=by rw[Jci,hown]
 generalize Jci cs U ⟨cn,cif,csu,cab,cfs,cvs,ct,cms,cat⟩=res at *;have hlf:(cfs.map Jn).length=cfs.length:=Ak _;have hlm:(cms.map Jm).length=cms.length:=Ak _;have hlk:(ct.map Jw).length=ct.length:=Ak _;have hlx:=JV cvs;have hkl:=Jb0 (w:=Jhb) (λx=>by simp only[Jhb];omega) ct;refine Jt hm L.f77.1 L.f77.2 rfl ?_;refine Kt hm ?_;unfold JEp;show At pr F H.length (fin _ H.length _) _ _ _ _;refine Ku hm ?_;intro H1 hH1 hlen hlt;have T1:=λM=>T.keep (JF hH1 (.cells Jj1) M);have pan:∀(x:Int×Int) (e:KC) (M:List Blk) (rw':List Nat),res=.error x->Rx rw rw'->fin [.cell 4 (some 9)] H.length (λr' S'=>∃ rw',Rx rw rw'/\r'=KR Jwj res/\S'=⟨H,rw'⟩) (.panic (Xs x)) e ⟨hp H1 H.length (.cells Jj1) M,rw'⟩:=λx e M rw' hre hr'=>FB
 refine' JM;refine Kj (q:=H.length) rfl rfl (Kh hlt) ?_;refine' JM;obtain⟨fF,hfF⟩:∃ fF:Fld->Er Fld,fF=λf:Fld=>(tyF cs U own f.type).bind λt=>.ok {f with type:=t}:=⟨_,rfl⟩
 rw[<- hfF]at hres;have hlf:(cfs.map Jn).length=cfs.length:=Ak _;have hfl:cfs.length<=64800000:=(JbU hcm C.ok.wt).1;refine JB hm (λmm e S'=>∃(q:Nat) (done:List Fld) (J:List Blk) (lv:AV) (rw3:List Nat),S'=⟨hp H1 H.length (.cells Jj1) (.cells (Jc ⟨cn,cif,csu,cab,cfs,cvs,ct,cms,cat⟩)::.cells (JC nt own)::.cells [.str cn,.bool cif,.str csu,Kp 1 (cab.map Qy),lv,.list 0 .full [],.list 0 .full [],.list 0 .full [],.int .i64 cat]::J),rw3⟩/\q<=cfs.length/\done.length=q/\Lst rw 9 lv (done.map Jn) rw3/\Rx rw rw3 /\
  QZ fF cfs=((QZ fF (cfs.drop q)).bind λm=>.ok (done++m))/\mm=cfs.length-q /\
  e=[(0,.ptr nt 0),(3,.ptr (H1.length+0) 0),(4,.ptr H.length 0),(5,.ptr (H1.length+1) 0),(6,.ptr (H1.length+2) 0),(27,Kp 9 (cfs.map Jn)),(28,.int .i64 ((cfs.map Jn).length:Int)),(29,.int .i64 q)]) ?_ (m:=cfs.length) ⟨0,[],[],_,rw,by rw[hown];rfl,O,rfl,Lst.nil,Rx.rfl,?_,rfl,rfl⟩
 rotate_left
 ·simp only[AA,Au];cases QZ fF cfs <;> rfl
 rintro mm e S' ⟨q,done,J,lv,rw3,rfl,hq0,hdl,hli,hR3,hod,rfl,rfl⟩;have hdl2:(done.map Jn).length=done.length:=Ak _;by_cases hq:q<cfs.length
 ·obtain⟨x,hx⟩:∃ x,cfs[q]? = some x:=⟨_,Ab hq⟩
  have hxr:(cfs.map Jn)[q]? = some (Jn x):=E7
  have hl9:Kp 9 (cfs.map Jn)=.list 9 .dead (cfs.map Jn):=Kf (i:=q) O;rw[Jfq hx]at hod;have hxm:=Aq hx;have hxo:=(hc4 x hxm).2;have hxw:=Q3 (w:=JlD) hxm;obtain⟨fn,⟨k1,n1,u1,e1,p1,a1⟩,ff,fa⟩:=x;simp only[JlD]at hxw;simp only at hxo;have hxk:=JgO _ hxo;have hxv:=Jsq (.mk k1 n1 u1 e1 p1 a1);have hfx:fF ⟨fn,.mk k1 n1 u1 e1 p1 a1,ff,fa⟩=(tyF cs U own (.mk k1 n1 u1 e1 p1 a1)).bind λt=>.ok ⟨fn,t,ff,fa⟩:=by rw[hfF]
  rw[hfx]at hod;rw[hl9];refine' JM;try rw[Xd]
  obtain⟨rw4,hR4,hd⟩:=Jjv L C (t:=.mk k1 n1 u1 e1 p1 a1) (T1 (.cells (Jc ⟨cn,cif,csu,cab,cfs,cvs,ct,cms,cat⟩)::.cells (JC nt own)::.cells [.str cn,.bool cif,.str csu,Kp 1 (cab.map Qy),lv,.list 0 .full [],.list 0 .full [],.list 0 .full [],.int .i64 cat]::(J++[.cells (Jn ⟨fn,.mk k1 n1 u1 e1 p1 a1,ff,fa⟩)]))) hro O O (.inl hxk) (rw:=rw3);refine Kk hd rfl rfl rfl ?_ ?_
  ·intro c hc;rw[hc]at hod;replace hod:QZ fF cfs=.error c:=hod;rw[hod]at hres;exact KM (pan c _ _ _ hres ((hR.trans hR3).trans hR4))
  intro t' v hvx hc;rw[hc]at hod;change v=.agg (Jl t')at hvx;subst hvx;clear hd;replace hli:=hli.ext hR4;replace hR3:=hR3.trans hR4;obtain⟨k2,n2,u2,e2,p2,a2⟩:=t';refine JQ ?_;refine' JM;have hpe:List.take 1 (Jn ⟨fn,.mk k1 n1 u1 e1 p1 a1,ff,fa⟩)++Jl (.mk k2 n2 u2 e2 p2 a2)++List.drop 7 (Jn ⟨fn,.mk k1 n1 u1 e1 p1 a1,ff,fa⟩)=Jn ⟨fn,.mk k2 n2 u2 e2 p2 a2,ff,fa⟩:=rfl;have hrp:=QE ⟨fn,.mk k2 n2 u2 e2 p2 a2,ff,fa⟩;rw[hpe,hrp.can];refine Qp ?_;refine Q1 rfl (vs:=[.agg (Jn ⟨fn,.mk k2 n2 u2 e2 p2 a2,ff,fa⟩)]) rfl ?_;refine Z2 hrp ?_;refine JT ?_;refine JW rfl rfl rfl ?_;refine QB hli hR3 AH AH O ?_;intro l4 rw7 hl4 hR7;obtain⟨s4,t4,rfl,-,-⟩:=hl4.isL.ex;refine JQ ?_;refine' JM;refine⟨cfs.length-(q+1),O,q+1,done++[⟨fn,.mk k2 n2 u2 e2 p2 a2,ff,fa⟩],_,_,rw7,rfl,O,Fu,Ek,hR7,?_,rfl,by first |rfl |(rw[hl9];rfl)⟩;rw[hod];show((QZ fF (cfs.drop (q+1))).bind λm=>.ok ((⟨fn,.mk k2 n2 u2 e2 p2 a2,ff,fa⟩:Fld)::m)).bind _=_;cases QZ fF (cfs.drop (q+1)) <;> simp[Except.bind]
 ·rw[AU O,QZ]at hod;replace hod:QZ fF cfs=.ok (done++[]):=hod;rw[Ar]at hod;rw[hod]at hres;replace hres:res=(Qg cs U own cvs).bind λis=>
   if !cif && ct.isEmpty && !cfs.isEmpty then Kz 137 cat else if !cif && ct.isEmpty && !(VW cs csu).isEmpty then Kz 132 cat else
   (QZ (Jbq cs U ⟨cn,cif,csu,cab,cfs,cvs,ct,cms,cat⟩) ct).bind λks=>(QZ (Jbp cs U own) cms).bind λms=>.ok ⟨cn,cif,csu,cab,done,is,ks,ms,cat⟩:=hres
  have hcn1:=hli.isL.canon;obtain⟨s1,t1,rfl,-,-⟩:=hli.isL.ex;replace hR:=hR.trans hR3;refine' JM;clear hod hli hR3 hq hq0 hdl2 hdl hfF;refine JB hm (λmm e S'=>∃(q:Nat) (is:List Xp) (J:List Blk) (lv:AV) (rw4:List Nat),S'=⟨hp H1 H.length (.cells Jj1) (.cells (Jc ⟨cn,cif,csu,cab,cfs,cvs,ct,cms,cat⟩)::.cells (JC nt own)::.cells [.str cn,.bool cif,.str csu,Kp 1 (cab.map Qy),.list s1 t1 (done.map Jn),lv,.list 0 .full [],.list 0 .full [],.int .i64 cat]::J),rw4⟩/\q<=cvs.length/\is.length=q/\Lst rw3 5 lv (Ja is) rw4/\Rx rw3 rw4 /\
   Qg cs U own cvs=((Qg cs U own (cvs.drop q)).bind λm=>.ok (is++m))/\mm=cvs.length-q /\
   e=[(0,.ptr nt 0),(3,.ptr (H1.length+0) 0),(4,.ptr H.length 0),(5,.ptr (H1.length+1) 0),(6,.ptr (H1.length+2) 0),(46,Kp 5 (Ja cvs)),(47,.int .i64 ((Ja cvs).length:Int)),(48,.int .i64 q)]) ?_ (m:=cvs.length) ⟨0,[],J,_,rw3,rfl,O,rfl,Lst.nil,Rx.rfl,?_,rfl,rfl⟩
  rotate_left
  ·simp only[AA,Au];cases Qg cs U own cvs <;> rfl
  rintro mm e S' ⟨q,is,J,lv,rw4,rfl,hq0,hdl,hli,hR3,hod,rfl,rfl⟩;have hdl2:=JV is;by_cases hq:q<cvs.length
  ·obtain⟨x,hx⟩:∃ x,cvs[q]? = some x:=⟨_,Ab hq⟩
   have hxr:(Ja cvs)[q]? = some (Jb x):=Fq
   have hl5:Kp 5 (Ja cvs)=.list 5 .dead (Ja cvs):=Kf (i:=q) O;rw[Jel hx]at hod;have hxm:=Aq hx;have hxw:=ZJ hwx hxm;have hxv:=JaI hxm;rw[hl5];refine' JM;try rw[Xd]
   obtain⟨rw5,hR5,hd⟩:=JrL L C (x:=x) (T1 (.cells (Jc ⟨cn,cif,csu,cab,cfs,cvs,ct,cms,cat⟩)::.cells (JC nt own)::.cells [.str cn,.bool cif,.str csu,Kp 1 (cab.map Qy),.list s1 t1 (done.map Jn),lv,.list 0 .full [],.list 0 .full [],.int .i64 cat]::(J++[.cells (Jb x)]))) hro O O hxw (rw:=rw4);refine Kk hd rfl rfl rfl ?_ ?_
   ·intro c hc;rw[hc]at hod;replace hod:Qg cs U own cvs=.error c:=hod;rw[hod]at hres;exact KM (pan c _ _ _ hres ((hR.trans hR3).trans hR5))
   intro x' v hvx hc;rw[hc]at hod;change v=.agg (Jb x')at hvx;subst hvx;clear hd;replace hli:=hli.ext hR5;replace hR3:=hR3.trans hR5;refine JQ ?_;refine Qp ?_;refine Q1 rfl (vs:=[.agg (Jb x')]) rfl ?_;refine Z2 (JG x') ?_;refine JT ?_;refine JW rfl rfl rfl ?_;refine QB hli hR3 AH AH O ?_;intro l4 rw7 hl4 hR7;obtain⟨s4,t4,rfl,-,-⟩:=hl4.isL.ex;refine JQ ?_;refine' JM;refine⟨cvs.length-(q+1),O,q+1,is++[x'],_,_,rw7,rfl,O,Fu,by have hea:Ja (is++[x'])=Ja is++[Jb x']:=(by simp only[KB,An,Ap,AC]);rw[hea];exact hl4,hR7,?_,rfl,Fc⟩;rw[hod];show((Qg cs U own (cvs.drop (q+1))).bind λm=>.ok (x'::m)).bind _=_;cases Qg cs U own (cvs.drop (q+1)) <;> simp[Except.bind]
  ·rw[AU O,Qg]at hod;replace hod:Qg cs U own cvs=.ok (is++[]):=hod;rw[Ar]at hod;rw[hod]at hres;replace hres:res=if !cif && ct.isEmpty && !cfs.isEmpty then Kz 137 cat else if !cif && ct.isEmpty && !(VW cs csu).isEmpty then Kz 132 cat else
    (QZ (Jbq cs U ⟨cn,cif,csu,cab,cfs,cvs,ct,cms,cat⟩) ct).bind λks=>(QZ (Jbp cs U own) cms).bind λms=>.ok ⟨cn,cif,csu,cab,done,is,ks,ms,cat⟩:=hres
   have hcn2:=hli.isL.canon;obtain⟨s2,t2,rfl,-,-⟩:=hli.isL.ex;replace hR:=hR.trans hR3;have hkt:∀ x∈ct,KtOk x:=λx hx=>JEv (hc6 x hx) (by have:=Q3 (w:=Jhb) hx;omega);have hmt:∀ x∈cms,MtOk x:=λx hx=>JEu (hc7 x hx) (by have:=Q3 (w:=JcF) hx;omega);have hcl:ct.length<=64800000:=O;have hml:cms.length<=64800000:=by have:=Jb0 (w:=JcF) (λx=>by simp only[JcF];omega) cms;omega
   by_cases hif:cif=false/\ct=[]
   ·obtain⟨rfl,rfl⟩:=hif;by_cases hfs:cfs=[]
    ·subst hfs;replace hres:res=if !(VW cs csu).isEmpty then Kz 132 cat else(QZ (Jbq cs U ⟨cn,false,csu,cab,[],cvs,[],cms,cat⟩) []).bind λks=>(QZ (Jbp cs U own) cms).bind λms=>.ok ⟨cn,false,csu,cab,done,is,ks,ms,cat⟩:=hres
     have at3:=λ(J:List Blk) (rw5:List Nat) (hR:Rx rw rw5) hres2=>Jmz L C (J:=J) hH1 hlt T1 pan hcm hro hov hor hkt hmt hcl hml hcn1 hcn2 hR hres2;refine' JM;all_goals first |(exfalso;exact hq rfl) |skip
     obtain⟨rw5,hR5,hd⟩:=TbU.ctorOf L.toLibW (T1 (.cells (Jc ⟨cn,false,csu,cab,[],cvs,[],cms,cat⟩)::.cells (JC nt own)::.cells [.str cn,.bool false,.str csu,Kp 1 (cab.map Qy),.list s1 t1 (done.map Jn),.list s2 t2 (Ja is),.list 0 .full [],.list 0 .full [],.int .i64 cat]::(J++[.cells (Jw Jjt)]))) csu (rw:=rw4);refine Je rfl rfl rfl ?_;refine Ks hd ?_;clear hd;replace hR:=hR.trans hR5;cases hk:ZT cs csu with
     | none=>
      have hcp:VW cs csu=[]:=by(unfold VW;rw[hk];rfl)
      rw[hcp]at hres;replace hres:res=(QZ (Jbq cs U ⟨cn,false,csu,cab,[],cvs,[],cms,cat⟩) []).bind λks=>(QZ (Jbp cs U own) cms).bind λms=>.ok ⟨cn,false,csu,cab,done,is,ks,ms,cat⟩:=hres;simp only[Jek,BR,BU];refine JQ ?_;refine' JM;exact at3 _ _ hR hres
     | some kc=>
      obtain⟨kp2,ks2,ksu2,kb2,ka2⟩:=kc;have hcp:VW cs csu=kp2:=by(unfold VW;rw[hk];rfl)
      rw[hcp]at hres;simp only[Jek,Bc,Bj];have hpl:(kp2.map Jf).length=kp2.length:=Ak _;refine JQ ?_;by_cases hk2:kp2=[]
      ·subst hk2;replace hres:res=(QZ (Jbq cs U ⟨cn,false,csu,cab,[],cvs,[],cms,cat⟩) []).bind λks=>(QZ (Jbp cs U own) cms).bind λms=>.ok ⟨cn,false,csu,cab,done,is,ks,ms,cat⟩:=hres;refine' JM;all_goals first |(exact at3 _ _ hR hres) |(exfalso;simp at hq;done)
      ·have hfp:0<kp2.length:=Cg.2 hk2;rw[if_pos (by simp[hk2])]at hres;refine' JM;all_goals first |(exfalso;omega) |skip
       refine KV (Kr L.toLibW _ _ _ _) rfl rfl rfl ?_;exact pan _ _ _ _ hres hR
    ·have hfp:0<cfs.length:=Cg.2 hfs;rw[if_pos (by simp[hfs])]at hres;refine' JM;all_goals first |(exfalso;exact hq rfl) |(exfalso;omega) |skip
     refine KV (Kr L.toLibW _ _ _ _) rfl rfl rfl ?_;exact pan _ _ _ _ hres hR
   ·have hres2:res=(QZ (Jbq cs U ⟨cn,cif,csu,cab,cfs,cvs,ct,cms,cat⟩) ct).bind λks=>(QZ (Jbp cs U own) cms).bind λms=>.ok ⟨cn,cif,csu,cab,done,is,ks,ms,cat⟩:=by
     rw[hres];have hb:(!cif && ct.isEmpty)=false:=by
      cases cif with
      | true=>rfl
      | false=>
       cases ct with
       | nil=>exact absurd ⟨rfl,rfl⟩ hif
       | cons _ _=>rfl
     rw[hb];simp only[CZ,AT,if_false]
    cases cif with
    | true=>refine' JM;exact Jmz L C hH1 hlt T1 pan hcm hro hov hor hkt hmt hcl hml hcn1 hcn2 hR hres2
    | false=>have hct:ct≠[]:=λh=>hif ⟨rfl,h⟩;have hcp:0<ct.length:=Cg.2 hct;have hlk:(ct.map Jw).length=ct.length:=Ak _;refine' JM;all_goals first |(exact Jmz L C hH1 hlt T1 pan hcm hro hov hor hkt hmt hcl hml hcn1 hcn2 hR hres2) |(exfalso;omega)
variable {P:Program} {K:Ghost} {S S':St} {w:World} {a:Act}
def SameA(zs:List Nat)(a a':Act):Prop:=a'.defers=a.defers/\a'.tmps.size=a.tmps.size/\∀ t∈zs,a'.tmps.getD t Go.undef=a.tmps.getD t Go.undef
theorem SameA.rfl{zs:List Nat}{a:Act}:SameA zs a a:=⟨Eq.refl _,Eq.refl _,λ_ _=>Eq.refl _⟩
theorem SameA.trans{zs:List Nat}{a b c:Act}(h2:SameA zs b c)(h1:SameA zs a b):SameA zs a c:=⟨h2.1.trans h1.1,h2.2.1.trans h1.2.1,λt ht=>(h2.2.2 t ht).trans (h1.2.2 t ht)⟩
def zB(zs:List Nat)(it:Item):Bool:=match it.dst with
 | some t=>!zs.contains t
 | none=>true
theorem FL{Q:Prop}(h:Q:=by cases it.dst <;> simp[Act.put]):Q:=h
theorem Jwl{zs:List Nat}{it:Item}{a:Act}(h:zB zs it=true)(u:Value):SameA zs a (a.put it.dst u):=by
 refine⟨FL,FL,λt ht=>?_⟩;unfold zB at h;cases hd:it.dst with
 | none=>simp[Act.put]
 | some d=>rw[hd]at h;simp only[Bb,BD,decide_eq_false_iff_not]at h;have hne:d≠t:=λe=>h (e ▸ ht);simp[Act.put,hne]
theorem FM{Q:Prop}(h:Q:=by simp[Rep,Go.undef]):Q:=h
theorem JmA{zs:List Nat}{b0 base nt:Nat}{cl:Ky}{ops:Array Oper}{it:Item}{e e':KC}{r:Option AV}{Kont:Act->World->Prop}{Q:Exit->Act->World->Prop}(hz:zB zs it=true)(hc:VM P ops nt it=true)(hcl:VF P cl)
  (R:Rel K S w) (hsc:VL S.heap.length S) (E:EnvRep K (Jj e) a.tmps) (hnt:nt<=a.tmps.size) (hb0:b0<=S.heap.length) (hal:∀ n,it.makes base n->K.m n=none) (hs:YR b0 cl base it e S=some (r,e',S'))
  (hk:∀ a' w' K',r=none->Rel K' S' w'->EnvRep K' (Jj e') a'.tmps->a'.tmps.size=a.tmps.size->SameA zs a a'->Step K (λn=>n<S.heap.length/\¬ it.makes base n) w K' w'->Keeps b0 S S'->Kont a' w')
  (hp:∀ v u w' K',r=some v->Rep K' v u->Rel K' S' w'->Step K (λn=>n<S.heap.length/\¬ it.makes base n) w K' w'->Keeps b0 S S'->Q (.panic [{v:=u,recovered:=false}]) a w') :
  wpOp P ops Q it.ix Kont a w:=by
 unfold VM at hc;split at hc
 ·rename_i o ho;simp only[Ah,beq_iff_eq]at hc;obtain⟨⟨⟨h1,h2⟩,h3⟩,h4⟩:=hc;have hd:∀ t,it.dst=some t->t<a.tmps.size:=λt ht=>by rw[ht]at h2;simp only[decide_eq_true_eq]at h2;omega
  have hsz:∀ u,(a.put it.dst u).tmps.size=a.tmps.size:=λu=>FL
  have hdf:∀ u,SameA zs a (a.put it.dst u):=λu=>Jwl hz u;unfold wpOp;simp only[ho];unfold YR at hs;split at hs
  ·simp at hs
  ·
   rename_i hw;simp only[V,AP]at hs;obtain⟨rfl,rfl,rfl⟩:=hs;rw[Jas h3 E hw];simp only[AT,if_false];rw[h1];exact hk _ w K rfl R (E.put FM it.dst hd) (hsz _) (hdf _) (Step.refl _ _ _) (KY _ _)
  ·rename_i hw;rw[Jas h3 E hw];simp only[if_true];left;split at hs
   ·rename_i q hq;rw[hq]at h4;split at hs
    ·rename_i v hv;simp only[V,AP]at hs;obtain⟨rfl,rfl,rfl⟩:=hs;obtain⟨v',K',w',hrun,hr,R',hst⟩:=JSR h4 R E hv (λn hn=>hal n (by unfold Item.makes;rw[hq];exact hn));unfold Oper.wp;rw[hrun];show Kont (a.put o.dst v') w';rw[h1];refine hk _ w' K' rfl R' ((E.ext hst.ext).put hr it.dst hd) (hsz _) (hdf _) (hst.mono ?_) (KY _ _);rintro n ⟨_,hn⟩ hm;exact hn (by unfold Item.makes;rw[hq];exact hm)
    ·simp at hs
   ·rename_i l re hl;rw[hl]at h4;split at hs
    ·rename_i v S1 hv;simp only[V,AP]at hs;obtain⟨rfl,rfl,rfl⟩:=hs;refine lwp h4 hcl R hsc E hb0 hv ?_ ?_
     ·intro v1 v' K' w' hr hrep R' hst hkp;cases hr;rw[h1];exact hk _ w' K' rfl R' ((E.ext hst.ext).put hrep it.dst hd) (hsz _) (hdf _) (hst.mono (λn hn=>hn.1)) hkp
     ·intro v1 v' K' w' hr;cases hr
    ·rename_i v S1 hv;simp only[V,AP]at hs;obtain⟨rfl,rfl,rfl⟩:=hs;refine lwp h4 hcl R hsc E hb0 hv ?_ ?_
     ·intro v1 v' K' w' hr;cases hr
     ·intro v1 v' K' w' hr hrep R' hst hkp;cases hr;exact hp _ v' w' K' rfl hrep R' (hst.mono (λn hn=>hn.1)) hkp
    ·simp at hs
 ·simp at hc
theorem FN{Q:Prop}(h:Q:=by obtain⟨j,_,rfl⟩:=VA.1 hm;omega):Q:=h
theorem JjD{zs:List Nat}{b0 base nt:Nat}{cl:Ky}{ops:Array Oper}{Q:Exit->Act->World->Prop}{N:Nat}(hcl:VF P cl):∀(items prev:List Item) (K:Ghost) (S:St) (w:World) (a:Act) (e e':KC) (r:Option AV) (S':St),
  (∀ it∈items,zB zs it=true)->(∀ it∈items,VM P ops nt it=true)->Rel K S w->VL S.heap.length S->EnvRep K (Jj e) a.tmps->nt<=a.tmps.size->b0<=S.heap.length->N<=S.heap.length->Pend K base S items->N<=base ->
  run b0 cl base prev items e S=some (r,e',S') ->
  (∀ a' w' K',r=none->Rel K' S' w'->EnvRep K' (Jj e') a'.tmps->a'.tmps.size=a.tmps.size->SameA zs a a'->Step K (λn=>n<N) w K' w'->Keeps b0 S S'->Q .normal a' w') ->
  (∀ v u a' w' K',r=some v->Rep K' v u->Rel K' S' w'->SameA zs a a'->Step K (λn=>n<N) w K' w'->Keeps b0 S S'->Q (.panic [{v:=u,recovered:=false}]) a' w') ->
  wpOps P ops Q (items.map (·.ix)) a w
 | [],prev,K,S,w,a,e,e',r,S',_,_,R,_,E,_,_,_,_,_,hrun,hk,_=>by simp only[run,V,AP]at hrun;obtain⟨rfl,rfl,rfl⟩:=hrun;exact hk a w K rfl R E rfl SameA.rfl (Step.refl _ _ _) (KY _ _)
 | it::rest,prev,K,S,w,a,e,e',r,S',hz,hc,R,hsc,E,hnt,hb0,hN,hpd,hNb,hrun,hk,hp=>by
  rw[Ap,wpOps_cons];simp only[run]at hrun;have hmk:∀ n,n<N->n<S.heap.length/\¬ it.makes base n:=λn hn=>⟨O,λhm=>FN⟩
  split at hrun
  ·simp at hrun
  ·rename_i v e1 S1 hs;simp only[V,AP]at hrun;obtain⟨rfl,rfl,rfl⟩:=hrun;refine JmA (hz it Ag) (hc it Ag) hcl R hsc E hnt hb0 (hpd.none it Ag) hs ?_ ?_
   ·intro a' w' K' h;cases h
   ·intro v' u w' K' hv hr R' hst hkp;exact hp v' u a w' K' hv hr R' SameA.rfl (hst.mono hmk) hkp
  ·rename_i e1 S1 hs;split at hrun
   ·refine JmA (hz it Ag) (hc it Ag) hcl R hsc E hnt hb0 (hpd.none it Ag) hs ?_ ?_
    ·intro a1 w1 K1 _ R1 E1 hsz hdf hst hkp;have hkl:=hkp.1;refine JjD hcl rest (it::prev) K1 S1 w1 a1 e1 e' r S' (λi hi=>hz i (A7 _ hi)) (λi hi=>hc i (A7 _ hi)) R1 (hkp.2.2 hsc) E1 O O O (hpd.next hst hkl) hNb hrun ?_ ?_
     ·intro a' w' K' hr R' E' hsz' hdf' hst' hkp';exact hk a' w' K' hr R' E' O (hdf'.trans hdf) ((hst.mono hmk).trans hst' (λ_ h=>h)) (hkp.trans hkp')
     ·intro v u a' w' K' hr hrep R' hdf' hst' hkp';exact hp v u a' w' K' hr hrep R' (hdf'.trans hdf) ((hst.mono hmk).trans hst' (λ_ h=>h)) (hkp.trans hkp')
    ·intro v u w' K' h;cases h
   ·simp at hrun
theorem FO{Q:Prop}(h:Q:=by simpa using he):Q:=h
theorem FP{Q:Prop}(h:Q:=by simp[hk]):Q:=h
theorem FQ{Q:Prop}(h:Q:=by simp[Array.getD,hk2]):Q:=h
theorem FS{Q:Prop}(h:Q:=by have:=hAx k hk;simp only[Zj,hkl k hk,B3,Ah,Bp,BD,decide_eq_true_eq]at this;exact⟨this.1.1.1,this.1.1.2,by rcases this.1.2 with(h |h) |h <;> simp[h]⟩):Q:=h
theorem FU{Q:Prop}(h:Q:=by simp only[Zj,Ah]at h;exact h.2):Q:=h
theorem FV{Q:Prop}(h:Q:=by have:=hAx k hk;simp only[Zj,Ah]at this;exact this.2):Q:=h
theorem FW{Q:Prop}(h:Q:=by rw[he2];exact E'):Q:=h
theorem Js6{zs:List Nat}{b0 base nt:Nat}{cl:Ky}{ops:Array Oper}{Q:Exit->Act->World->Prop}{N:Nat}{md:Region.Mode}{tab M:List Nat}(hcl:VF P cl)(hmd:∀ e,Region.binds .any e=true->Region.binds md e=true)
  (hok:Jgw ops tab=true) (hM:Jcw md ops M=true):∀(m:Nat) (L:List Item) (listed:Array Bool) (K:Ghost) (S:St) (w:World) (a:Act) (e e':KC) (r:Option AV) (S':St),L.length=m ->
  listed.size=ops.size->JoX ops listed->(∀ i,listed.getD i true=false↔i∈L.map (·.ix))->(L.map (·.ix)).Nodup ->
  List.Pairwise (λk x=>Zj tab k x=true) L->(∀ k∈L,JeH k=true) ->
  (∀ it∈L,zB zs it=true)->(∀ it∈L,VM P ops nt it=true)->Rel K S w->VL S.heap.length S->EnvRep K (Jj e) a.tmps->nt<=a.tmps.size->b0<=S.heap.length->N<=S.heap.length->Pend K base S L->N<=base ->
  run b0 cl base [] L e S=some (r,e',S') ->
  (∀ a' w' K',r=none->Rel K' S' w'->EnvRep K' (Jj e') a'.tmps->a'.tmps.size=a.tmps.size->SameA zs a a'->Step K (λn=>n<N) w K' w'->Keeps b0 S S'->Q .normal a' w') ->
  (∀ v u a' w' K',r=some v->Rep K' v u->Rel K' S' w'->SameA zs a a'->Step K (λn=>n<N) w K' w'->Keeps b0 S S'->Q (.panic [{v:=u,recovered:=false}]) a' w') ->
  wpAny P md ops Q m listed a w:=by
 intro m;induction m with
 | zero=>intro L listed K S w a e e' r S' hL hls hd hun hnd hpw hself hz hc R hsc E hnt hb0 hN hpd hNb hrun hk hp;have:L=[]:=Bz.1 hL;subst this;simp only[run,V,AP]at hrun;obtain⟨rfl,rfl,rfl⟩:=hrun;refine⟨?_,hk a w K rfl R E rfl SameA.rfl (Step.refl _ _ _) (KY _ _)⟩;rw[DH];intro i hi;have:=(hun i).1 (mem_ready.1 hi).1;simp at this
 | succ m ih=>
  intro L listed K S w a e e' r S' hL hls hd hun hnd hpw hself hz hc R hsc E hnt hb0 hN hpd hNb hrun hk hp;refine⟨λhr=>?_,λi hi=>?_⟩
  ·exfalso;simp only[Jcw,Ah,Bo]at hM;have hne:L≠[]:=by rintro rfl;simp at hL
   obtain⟨x,hx⟩:=DZ L hne;have hxl:=(hun x.ix).2 (Bw.2 ⟨x,hx,rfl⟩);have hxc:=hc x hx;have hxi:x.ix<ops.size:=by
    unfold VM at hxc;split at hxc
    ·rename_i o ho;exact(AQ.1 ho).1
    ·simp at hxc
   have hxM:=hM.2 x.ix (Cc.2 hxi);obtain⟨j,hj⟩:=Jbc hls M [] hM.1 Ag ⟨x.ix,by simpa using hxM,hxl⟩;rw[hr]at hj;cases hj
  ·obtain⟨hil,o,ho,hpre⟩:=mem_ready.1 hi;obtain⟨x,hx,hxi⟩:=Bw.1 ((hun i).1 hil);subst hxi;obtain⟨A,B,rfl⟩:=CY hx;have hpre':∀ e∈o.after.toList,Region.binds .any e=true->listed.getD e.on false=true:=λe he hb=>hpre e FO (hmd e hb);have hbef:=JeI hok hd x.ix o ho hpre';have hpwA:=(Cb.1 hpw)
   have hAx:∀ k∈A,Zj tab k x=true:=λk hk=>hpwA.2.2 k hk x Ag;have hkl:∀ k∈A,(tab.getD x.ix 0).testBit k.ix=false:=λk hk=>by
    cases hb:(tab.getD x.ix 0).testBit k.ix with
    | false=>rfl
    | true=>
     have h1:=hbef k.ix hb;have h2:=(hun k.ix).2 (Bw.2 ⟨k,FP,rfl⟩);have hk2:k.ix<listed.size:=by
      rcases Dy k.ix listed.size with h |h
      ·exact h
      ·simp[Array.getD,DO.2 h]at h1
     have:listed.getD k.ix true=listed.getD k.ix false:=FQ
     rw[this,h1]at h2;cases h2
   have hpull:=pull (A:=A) (B:=B) (x:=x) (e:=e) (S:=S) (r:=r) (e':=e') (S':=S') (b0:=b0) (cl:=cl) (base:=base) (λk hk=>FS)
    (hpwA.1.imp (fun{k y} h=>FU))
    (λk hk=>FV) (λk hk=>hself k FP) hrun
   have hmk:∀ n,n<N->n<S.heap.length/\¬ x.makes base n:=λn hn=>⟨O,λhm=>FN⟩
   rcases hpull with⟨v,hv,hst⟩ |⟨e1,S1,hst,e2,hrun2,he2⟩
   ·refine JmA (hz x hx) (hc x hx) hcl R hsc E hnt hb0 (hpd.none x hx) hst ?_ ?_
    ·intro a' w' K' h;cases h
    ·intro v' u w' K' hv' hr R' hstp hkp;cases hv';exact hp v u a w' K' hv hr R' SameA.rfl (hstp.mono hmk) hkp
   ·refine JmA (hz x hx) (hc x hx) hcl R hsc E hnt hb0 (hpd.none x hx) hst ?_ ?_
    ·intro a1 w1 K1 _ R1 E1 hsz hdf hstp hkp;have hnd':((A++B).map (·.ix)).Nodup/\x.ix ∉ (A++B).map (·.ix):=by rw[An,Ap]at hnd;have h1:=(List.perm_middle.nodup_iff).1 hnd;rw[B6]at h1;rw[An];exact⟨h1.2,h1.1⟩
     have hxs:x.ix<listed.size:=by rw[hls];exact(AQ.1 ho).1
     refine ih (A++B) (listed.setIfInBounds x.ix true) K1 S1 w1 a1 e1 e2 r S' ?_ ?_ ?_ ?_ hnd'.1 ?_ ?_ ?_ ?_ R1 (hkp.2.2 hsc) E1 O ?_ ?_ ?_ hNb hrun2 ?_ ?_
     ·simp at hL |-;omega
     ·simpa using hls
     ·intro j oj ej hoj hlj hej hbj;by_cases hjx:x.ix=j
      ·subst hjx;rw[ho]at hoj;cases hoj;exact getD_set_true (hpre' ej hej hbj)
      ·rw[getD_set_ne false hjx]at hlj;exact getD_set_true (hd j oj ej hoj hlj hej hbj)
     ·intro j;by_cases hjx:x.ix=j
      ·subst hjx;have:(listed.setIfInBounds x.ix true).getD x.ix true=true:=by simp[Array.getD,hxs]
       rw[this];simp only[Bool.true_eq_false,false_iff];exact hnd'.2
      ·rw[getD_set_ne true hjx,hun j];simp only[An,Ap,AM,AS];constructor
       ·rintro(h |h |h)
        ·exact .inl h
        ·exact absurd h.symm hjx
        ·exact .inr h
       ·rintro(h |h)
        ·exact .inl h
        ·exact .inr (.inr h)
     ·exact Cb.2 ⟨hpwA.1,(BK.1 hpwA.2.1).2,λk hk y hy=>hpwA.2.2 k hk y Ei⟩
     ·exact λk hk=>hself k (by
       rcases AM.1 hk with h |h
       ·simp[h]
       ·simp[h])
     ·exact λk hk=>hz k (by
       rcases AM.1 hk with h |h
       ·simp[h]
       ·simp[h])
     ·exact λk hk=>hc k (by
       rcases AM.1 hk with h |h
       ·simp[h]
       ·simp[h])
     ·have:=hkp.1;omega
     ·have:=hkp.1;omega
     ·exact hpd.pull hstp hkp.1
     ·intro a' w' K' hr R' E' hsz' hdf' hst' hkp';exact hk a' w' K' hr R' FW O (hdf'.trans hdf) ((hstp.mono hmk).trans hst' (λ_ h=>h)) (hkp.trans hkp')
     ·intro v u a' w' K' hr hrep R' hdf' hst' hkp';exact hp v u a' w' K' hr hrep R' (hdf'.trans hdf) ((hstp.mono hmk).trans hst' (λ_ h=>h)) (hkp.trans hkp')
    ·intro v u w' K' h;cases h
def J0W(zs:List Nat)(P:Program)(b0 _nt:Nat)(K:Ghost)(S:St)(w:World)(a:Act)(c:Code)(r:Ex×KC×St):Prop:=
 ∀ Q:Exit->Act->World->Prop,(∀ a' w' K' en,Rel K' r.2.2 w'->(ZO r.1->EnvRep K' (Jj r.2.1) a'.tmps)->SameA zs a a'->(ZO r.1->a'.tmps.size=a.tmps.size) ->
  Step K (λn=>n<S.heap.length) w K' w'->Keeps b0 S r.2.2->Exr K' r.1 en->Q en a' w')->c.wp P Q a w
theorem FX{Q:Prop}(h:Q:=by obtain⟨cs,hcs,rfl⟩:=Bw.1 hb;exact h4 cs hcs):Q:=h
theorem FY{Q:Prop}(h:Q:=by intro w0 hw0 a' w' K' hr R' E' hsz hdf hst hkp;have:=hnorm hr;subst this;exact hQ a' w' K' .normal R' (λ_=>E'.keep kp) hdf (λ_=>hsz) (hw0.trans hst (λ_ h=>h)) (hkr.trans hkp) trivial):Q:=h
theorem F0{Q:Prop}(h:Q:=by intro w0 hw0 v u a' w' K' hr hrep R' hdf hst hkp;have:=hpan v hr;subst this;exact hQ a' w' K' (.panic [{v:=u,recovered:=false}]) R' (λh=>by cases h) hdf (λh=>by cases h) (hw0.trans hst (λ_ h=>h)) (hkr.trans hkp) ⟨u,rfl,hrep⟩):Q:=h
theorem JoG{zs:List Nat}{b0 nt n id:Nat}{cl:Ky}{allocs:List (List AV)}{items:List Item}{kp:List Nat}{ops:Array Oper}{draw:Bool}{K:Ghost}{S:St}{w:World}{a:Act}{e:KC}{r:Ex×KC×St}
  (hcl:VF P cl) (hz:∀ it∈items,zB zs it=true) (hc:Jbd P nt allocs items ops draw=true) (R:Rel K S w) (hsc:VL S.heap.length S) (E:EnvRep K (Jj e) a.tmps) (hnt:nt<=a.tmps.size) (hb0:b0<=S.heap.length)
  (hx:Qr b0 cl n (.region allocs items kp) e S=some r):J0W zs P b0 nt K S w a (.region id ops draw) r:=by
 intro Q hQ;simp only[Jbd,Ah,Bo,decide_eq_true_eq]at hc;obtain⟨⟨⟨⟨h1,h2⟩,h3⟩,h4⟩,h5⟩:=hc;have R1:=R.reserve (allocs.map Blk.cells);have hkr:Keeps b0 S {S with heap:=S.heap++allocs.map Blk.cells}:=JaY hb0 (λb hb=>FX)
 have hpd:Pend K S.heap.length {S with heap:=S.heap++allocs.map Blk.cells} items:=by
  refine⟨λit hi m hm=>?_,λit hi m hm=>?_,Yb h2⟩
  ·obtain⟨j,hj,rfl⟩:=VA.1 hm;exact R.none_ge O
  ·obtain⟨j,hj,rfl⟩:=VA.1 hm;have:=h3 j (CW.2 ⟨it,hi,hj⟩);simp;omega
 obtain⟨rr,e1,S1,hrun,hnorm,hpan⟩:∃ rr e1 S1,run b0 cl S.heap.length [] items e {S with heap:=S.heap++allocs.map Blk.cells}=some (rr,e1,S1)/\(rr=none->r=(.normal,keep kp e1,S1))/\(∀ v,rr=some v->r=(.panic v,e1,S1)):=by
  simp only[Qr]at hx;split at hx
  ·rename_i e1 S1 hrun;simp only[V]at hx;exact⟨none,e1,S1,hrun,λ_=>hx.symm,λv h=>EB⟩
  ·rename_i v e1 S1 hrun;simp only[V]at hx;exact⟨some v,e1,S1,hrun,(λh=>EB),λv' h=>by cases h;exact hx.symm⟩
  ·simp at hx
 have hk:∀(w0:World),Step K (λn=>n<S.heap.length) w K w0->∀ a' w' K',rr=none->Rel K' S1 w'->EnvRep K' (Jj e1) a'.tmps->a'.tmps.size=a.tmps.size->SameA zs a a'->Step K (λn=>n<S.heap.length) w0 K' w'->Keeps b0 {S with heap:=S.heap++allocs.map Blk.cells} S1->Q .normal a' w':=FY
 have hp:∀(w0:World),Step K (λn=>n<S.heap.length) w K w0->∀ v u a' w' K',rr=some v->Rep K' v u->Rel K' S1 w'->SameA zs a a'->Step K (λn=>n<S.heap.length) w0 K' w'->Keeps b0 {S with heap:=S.heap++allocs.map Blk.cells} S1->Q (.panic [{v:=u,recovered:=false}]) a' w':=F0
 cases draw with
 | false=>simp only[AT,if_false,beq_iff_eq]at h5;refine wp_region ?_;rw[<- h5];exact JjD (N:=S.heap.length) hcl items [] K _ w a e e1 rr S1 hz h1 R1 (hkr.2.2 hsc) E hnt AR Ag hpd (Ao _) hrun (hk w (Step.refl _ _ _)) (hp w (Step.refl _ _ _))
 | true=>
  simp only[if_true,Ah,beq_iff_eq,Bo,Bp,Bb]at h5;obtain⟨⟨⟨⟨⟨⟨g1,g2⟩,g3⟩,g4⟩,g5⟩,g6⟩,g7⟩:=h5;obtain⟨c1,c2⟩:=JaP g2;refine wp_region_draw λt=>?_;have key:∀(md:Region.Mode) (M:List Nat) (t':Nat),(∀ e,Region.binds .any e=true->Region.binds md e=true)->Jcw md ops M=true ->
    wpOps P ops Q (Region.linearise md ops t') a {w with drawn:=w.drawn+1}:=by
   intro md M t' hmd hM;refine wpAny_sound ops.size t' _ a _ ?_;refine Js6 (N:=S.heap.length) hcl hmd g1 hM ops.size items _ K _ w.drew a e e1 rr S1 g4 Ag ?_ ?_ (Yb g3) c1 c2 hz h1 R1.drew (hkr.2.2 hsc) E hnt AR Ag hpd (Ao _) hrun (hk _ (Step.drew _ _ _)) (hp _ (Step.drew _ _ _))
   ·intro i o ed _ hl;exfalso;simp only[AX,BE]at hl;split at hl <;> simp at hl
   ·intro i;constructor
    ·intro hl;simp only[AX,BE]at hl;split at hl
     ·rename_i hlt;have:=g5 i (Cc.2 hlt);simpa using this
     ·simp at hl
    ·intro hi;obtain⟨x,hx,rfl⟩:=Bw.1 hi;have hxc:=h1 x hx;unfold VM at hxc;split at hxc
     ·rename_i o ho;have hlt:=(AQ.1 ho).1;simp only[AX,BE];rw[if_pos hlt];rfl
     ·simp at hxc
  unfold Region.schedule;split
  ·exact key .any _ t (λ_ h=>h) g6
  ·rename_i hnd;simp only[Bp,Bb,not_or,DD]at hnd;rcases g7 with g7 |⟨g7,g8⟩
   ·rw[g7]at hnd;exact absurd hnd.2 Ag
   ·split
    ·refine key .text _ _ (λe h=>?_) g7;cases hg:e.ground <;> simp[Region.binds,hg]at h |-
    ·refine key .gc _ _ (λe h=>?_) g8;cases hg:e.ground <;> simp[Region.binds,hg]at h |-
def zC(zs:List Nat):IC->Bool
 | .region _ items _=>items.all (zB zs) && (JfD items).isNone
 | .seq a b=>zC zs a && zC zs b
 | .cond _ a b=>zC zs a && zC zs b
 | .block _ b=>zC zs b
 | .loop _ b=>zC zs b
 | _=>true
theorem Jc4{zs:List Nat}{b0 nt n:Nat}{cl:Ky}(hcl:VF P cl):∀(ic:IC) (c:Code) (K:Ghost) (S:St) (w:World) (a:Act) (e:KC) (r:Ex×KC×St),zC zs ic=true->Yn P nt ic c=true->Rel K S w->VL S.heap.length S->EnvRep K (Jj e) a.tmps->nt<=a.tmps.size->b0<=S.heap.length ->
  Qr b0 cl n ic e S=some r->J0W zs P b0 nt K S w a c r
 | .skip,c,K,S,w,a,e,r,hz,hc,R,_,E,_,_,hx=>by
  cases c <;> simp[Yn]at hc
  intro Q hQ;simp only[Qr,V]at hx;subst hx;exact wp_skip (hQ a w K .normal R (λ_=>E) SameA.rfl (λ_=>rfl) (Step.refl _ _ _) (KY _ _) trivial)
 | .exit id,c,K,S,w,a,e,r,hz,hc,R,_,E,_,_,hx=>by
  cases c <;> simp[Yn]at hc
  subst hc;intro Q hQ;simp only[Qr,V]at hx;subst hx;exact wp_exit (hQ a w K (.exit id) R (λ_=>E) SameA.rfl (λ_=>rfl) (Step.refl _ _ _) (KY _ _) rfl)
 | .stuck,c,K,S,w,a,e,r,hz,hc,R,_,E,_,_,hx=>by simp[Qr]at hx
 | .ret,c,K,S,w,a,e,r,hz,hc,R,_,E,_,_,hx=>by
  cases c <;> simp[Yn]at hc
  intro Q hQ;simp only[Qr,V]at hx;subst hx;exact wp_ret (hQ a w K .ret R (λ_=>E) SameA.rfl (λ_=>rfl) (Step.refl _ _ _) (KY _ _) trivial)
 | .region allocs items kp,c,K,S,w,a,e,r,hz,hc,R,hsc,E,hnt,hb0,hx=>by
  cases c <;> simp only[Yn,AT,Bp]at hc
  simp only[zC,Ah,Bo,Option.isNone_iff_eq_none]at hz;rcases hc with hc |hc
  ·exact JoG hcl hz.1 hc R hsc E hnt hb0 hx
  ·unfold JbD at hc;rw[hz.2,Dl]at hc;cases hc
 | .cond x i j,c,K,S,w,a,e,r,hz,hc,R,hsc,E,hnt,hb0,hx=>by
  simp only[zC,Ah]at hz;cases c <;> simp only[Yn,AT,Ah]at hc
  obtain⟨⟨h1,h2⟩,h3⟩:=hc;intro Q hQ;simp only[Qr]at hx;split at hx
  ·rename_i hv;have hr:=JA E h1 hv;simp only[Rep]at hr;exact wp_cond_true hr (Jc4 hcl i _ K S w a e r hz.1 h2 R hsc E hnt hb0 hx Q hQ)
  ·rename_i hv;have hr:=JA E h1 hv;simp only[Rep]at hr;exact wp_cond_false hr (Jc4 hcl j _ K S w a e r hz.2 h3 R hsc E hnt hb0 hx Q hQ)
  ·simp at hx
 | .seq i j,c,K,S,w,a,e,r,hz,hc,R,hsc,E,hnt,hb0,hx=>by
  simp only[zC,Ah]at hz;cases c <;> simp only[Yn,AT,Ah]at hc
  obtain⟨h1,h2⟩:=hc;intro Q hQ;simp only[Qr]at hx;refine wp_seq ?_;split at hx
  ·rename_i e1 S1 h;refine Jc4 hcl i _ K S w a e _ hz.1 h1 R hsc E hnt hb0 h _ ?_;intro a1 w1 K1 en R1 E1 hdf hsz hst hkp hex;cases en <;> simp only[Exr]at hex
   have hsz':=hsz trivial;refine Jc4 hcl j _ K1 S1 w1 a1 e1 r hz.2 h2 R1 (hkp.2.2 hsc) (E1 trivial) O (by have:=hkp.1;simp at this;omega) hx Q ?_;intro a2 w2 K2 en R2 E2 hdf2 hsz2 hst2 hkp2 hex2;exact hQ a2 w2 K2 en R2 E2 (hdf2.trans hdf) (λh=>by rw[hsz2 h,hsz']) (hst.trans hst2 (λm hm=>Bh hm hkp.1)) (hkp.trans hkp2) hex2
  ·rename_i hne;refine Jc4 hcl i _ K S w a e r hz.1 h1 R hsc E hnt hb0 hx _ ?_;intro a1 w1 K1 en R1 E1 hdf hsz hst hkp hex;have hnn:r.1≠.normal:=by intro h;obtain⟨ex,e1,S1⟩:=r;simp only at h;subst h;exact hne e1 S1 hx
   cases en with
   | normal=>
    exfalso;cases hr:r.1 <;> rw[hr]at hex <;> simp only[Exr]at hex
    exact hnn hr
   | _=>exact hQ a1 w1 K1 _ R1 E1 hdf hsz hst hkp hex
 | .block id i,c,K,S,w,a,e,r,hz,hc,R,hsc,E,hnt,hb0,hx=>by
  simp only[zC]at hz;cases c <;> simp only[Yn,AT,Ah,beq_iff_eq]at hc
  obtain⟨rfl,h2⟩:=hc;intro Q hQ;simp only[Qr]at hx;refine wp_block ?_;split at hx
  ·rename_i id' e1 S1 h;refine Jc4 hcl i _ K S w a e _ hz h2 R hsc E hnt hb0 h _ ?_;intro a1 w1 K1 en R1 E1 hdf hsz hst hkp hex;cases en <;> simp only[Exr]at hex
   subst hex;simp only[Exit.inBlock];split at hx
   ·rename_i hid;simp only[V]at hx;subst hx;rw[if_pos hid];exact hQ a1 w1 K1 .normal R1 (λ_=>E1 trivial) hdf (λ_=>hsz trivial) hst hkp trivial
   ·rename_i hid;simp only[V]at hx;subst hx;rw[if_neg hid];exact hQ a1 w1 K1 _ R1 (λ_=>E1 trivial) hdf (λ_=>hsz trivial) hst hkp rfl
  ·rename_i hne;refine Jc4 hcl i _ K S w a e r hz h2 R hsc E hnt hb0 hx _ ?_;intro a1 w1 K1 en R1 E1 hdf hsz hst hkp hex;cases en with
   | exit id'=>
    exfalso;cases hr:r.1 <;> rw[hr]at hex <;> simp only[Exr]at hex
    obtain⟨ex,e1,S1⟩:=r;simp only at hr;subst hr;exact hne _ e1 S1 hx
   | _=>exact hQ a1 w1 K1 _ R1 E1 hdf hsz hst hkp hex
 | .loop kp i,c,K,S,w,a,e,r,hz,hc,R,hsc,E,hnt,hb0,hx=>by
  simp only[zC]at hz;cases c <;> simp only[Yn,AT]at hc
  rename_i c;intro Q hQ;simp only[Qr]at hx;refine Jkf (P:=P) (n:=n) (λm a1 w1=>∃ K1 S1 e1,Rel K1 S1 w1/\EnvRep K1 (Jj e1) a1.tmps/\a1.tmps.size=a.tmps.size/\SameA zs a a1/\Step K (λn=>n<S.heap.length) w K1 w1/\Keeps b0 S S1/\JdU (Qr b0 cl n i) kp m e1 S1=some r) ?_ ?_ ⟨K,S,e,R,E,rfl,SameA.rfl,Step.refl _ _ _,KY _ _,hx⟩
  ·rintro a1 w1 ⟨K1,S1,e1,_,_,_,_,_,_,h⟩;simp[JdU]at h
  ·rintro m a1 w1 ⟨K1,S1,e1,R1,E1,hsz1,hdf1,hst1,hkp1,h⟩;simp only[JdU]at h;have hb1:b0<=S1.heap.length:=by have:=hkp1.1;omega
   split at h
   ·rename_i e2 S2 hb;refine Jc4 hcl i c K1 S1 w1 a1 _ _ hz hc R1 (hkp1.2.2 hsc) (E1.keep kp) O hb1 hb _ ?_;intro a2 w2 K2 en R2 E2 hdf hsz hst hkp hex;cases en <;> simp only[Exr]at hex
    exact⟨K2,S2,e2,R2,E2 trivial,(hsz trivial).trans hsz1,hdf.trans hdf1,hst1.trans hst (λm hm=>Bh hm hkp1.1),hkp1.trans hkp,h⟩
   ·rename_i hne;refine Jc4 hcl i c K1 S1 w1 a1 _ r hz hc R1 (hkp1.2.2 hsc) (E1.keep kp) O hb1 h _ ?_;intro a2 w2 K2 en R2 E2 hdf hsz hst hkp hex;have hnn:r.1≠.normal:=by intro hr;obtain⟨ex,e2,S2⟩:=r;simp only at hr;subst hr;exact hne e2 S2 h
    cases en with
    | normal=>
     exfalso;cases hr:r.1 <;> rw[hr]at hex <;> simp only[Exr]at hex
     exact hnn hr
    | _=>exact hQ a2 w2 K2 _ R2 E2 (hdf.trans hdf1) (λh=>(hsz h).trans hsz1) (hst1.trans hst (λm hm=>Bh hm hkp1.1)) (hkp1.trans hkp) hex
def Jp9(res:List RVar)(n0:Nat)(e:KC)(S:St):Option (Res×St):=match QT res e S.heap with
 | some rs=>some (.ret (Y4 n0 (X2 rs) S).1,(Y4 n0 (X2 rs) S).2)
 | none=>none
def Jhj(a b c d h:IC)(res:List RVar)(n:Nat)(cl:Ky)(vs:List AV)(S:St):Option (Res×St):=
 match Qr S.heap.length cl n a (Ys vs) S with
 | some (.normal,e0,S0)=>match Qr S.heap.length cl n b e0 S0 with
  | some (.normal,e1,S1)=>match Qr S.heap.length cl n c e1 S1 with
   | some (.ret,e2,S2)=>Jp9 res S.heap.length e2 S2
   | some (.normal,e2,S2)=>match Qr S.heap.length cl n d (keep [1,2,3,4] e2) S2 with
    | some (.ret,e3,S3)=>Jp9 res S.heap.length e3 S3
    | some (.panic (.iface t v),_,S3)=>match Jj e2 2,Jj e2 3,Jj e2 4 with
     | some x,some y,some z=>match Qr S.heap.length cl n h [(0,x),(1,y),(2,z),(3,.iface t v)] S3 with
      | some (.normal,_,S4)=>Jp9 res S.heap.length [(2,x),(3,y),(4,z)] S4
      | _=>none
     | _,_,_=>none
    | _=>none
   | _=>none
  | _=>none
 | _=>none
theorem Jge{a b c d h:IC}{res:List RVar}{cl cl':Ky}(hc:CLe cl cl'){n n':Nat}(hn:n<=n')(vs:List AV)(S:St):Le (Jhj a b c d h res n cl vs S) (Jhj a b c d h res n' cl' vs S):=by
 intro r hr;unfold Jhj at hr |-;have hm:=λ(b0:Nat) (c:IC) (e:KC) (S:St) (r:Ex×KC×St) (h:Qr b0 cl n c e S=some r)=>Q6 hc hn c e S _ h;split at hr
 case h_2=>cases hr
 rename_i e0 S0 h0;rw[hm _ _ _ _ _ h0];simp only;split at hr
 case h_2=>cases hr
 rename_i e1 S1 h1;rw[hm _ _ _ _ _ h1];simp only;split at hr
 ·rename_i e2 S2 h2;rw[hm _ _ _ _ _ h2];exact hr
 ·rename_i e2 S2 h2;rw[hm _ _ _ _ _ h2];simp only;split at hr
  ·rename_i e3 S3 h3;rw[hm _ _ _ _ _ h3];exact hr
  ·rename_i t v e3 S3 h3;rw[hm _ _ _ _ _ h3];simp only;split at hr
   ·rename_i x y z hx hy hz;split at hr
    ·rename_i e4 S4 h4;rw[hm _ _ _ _ _ h4];exact hr
    ·cases hr
   ·cases hr
  ·cases hr
 ·cases hr
open Classical in
def Jj2(a b c d h:IC)(res:List RVar)(cl:Ky)(vs:List AV)(S:St):Option (Res×St):=
 if hx:vs.length=1/\∃ r n,Jhj a b c d h res n cl vs S=some r then some (Classical.choose hx.2)else none
theorem Jk3{a b c d h:IC}{res:List RVar}{cl:Ky}{vs:List AV}{S:St}{r:Res×St}(hr:Jj2 a b c d h res cl vs S=some r):vs.length=1/\∃ n,Jhj a b c d h res n cl vs S=some r:=by
 unfold Jj2 at hr;split at hr
 ·rename_i hx;simp only[V]at hr;subst hr;exact⟨hx.1,BB hx.2⟩
 ·simp at hr
theorem JrU{a b c d h:IC}{res:List RVar}{cl cl':Ky}(hc:CLe cl cl'){vs:List AV}{S:St}{n:Nat}{r:Res×St}(hl:vs.length=1)(hr:Jhj a b c d h res n cl vs S=some r):Jj2 a b c d h res cl' vs S=some r:=by
 have h1:vs.length=1/\∃ r n,Jhj a b c d h res n cl' vs S=some r:=⟨hl,r,n,Jge hc (Ao n) vs S _ hr⟩
 unfold Jj2;rw[dif_pos h1];obtain⟨m,hm⟩:=BB h1.2;have e1:=Jge hc (B5 n m) vs S _ hr;have e2:=Jge (λ_ _ _ _ h=>h) (B7 n m) vs S _ hm;rw[e1]at e2;exact e2.symm
theorem Jk4(a b c d h:IC)(res:List RVar):JeN (Jj2 a b c d h res):=by intro cl cl' hc vs S r hr;obtain⟨hl,n,hn⟩:=Jk3 hr;exact JrU hc hl hn
variable {pr:Jz} {F:Nat->Option IFn}
theorem JSh(hm:Yy pr){a b c d h:IC}{res:List RVar}{f:Nat}(hf:pr f=some (Jj2 a b c d h res)){vs:List AV}(hl:vs.length=1){S:St}{Q:Res->St->Prop}
  (hx:Wx pr F S.heap.length a (Ys vs) S λx e0 S0=>x=.normal/\Wx pr F S.heap.length b e0 S0 λx e1 S1=>x=.normal/\Wx pr F S.heap.length c e1 S1 λx e2 S2=>
   (x=.ret/\fin res S.heap.length Q .ret e2 S2)\/(x=.normal/\Wx pr F S.heap.length d (keep [1,2,3,4] e2) S2 λx e3 S3=>
    (x=.ret/\fin res S.heap.length Q .ret e3 S3)\/∃ t v x2 y z,x=.panic (.iface t v)/\Jj e2 2=some x2/\Jj e2 3=some y/\Jj e2 4=some z /\
     Wx pr F S.heap.length h [(0,x2),(1,y),(2,z),(3,.iface t v)] S3 λx _e4 S4=>x=.normal/\fin res S.heap.length Q .ret [(2,x2),(3,y),(4,z)] S4)):Wp pr F f vs S Q:=by
 have ho:∀(e:KC) (S1:St),fin res S.heap.length Q .ret e S1->∃ r S',Jp9 res S.heap.length e S1=some (r,S')/\Q r S':=λe S1 h=>by
  unfold fin at h;unfold Jp9;cases hr:QT res e S1.heap with
  | none=>rw[hr]at h;exact h.elim
  | some rs=>rw[hr]at h;exact⟨_,_,rfl,h⟩
 have hex:∀{n m:Nat} {C:IC} {e:KC} {S1:St} {r:Ex×KC×St} {b0:Nat},n<=m->Qr b0 (QF pr F n) n C e S1=some r->Qr b0 (QF pr F m) m C e S1=some r:=λhnm h=>Q6 (Q0 hm hnm) hnm _ _ _ _ h;have fin_:∀(n:Nat) (r:Res) (S':St),Jhj a b c d h res n (QF pr F n) vs S=some (r,S')->Q r S'->Wp pr F f vs S Q:=λn r S' h hq=>by refine⟨n+1,r,S',?_,hq⟩;simp only[QF,hf];exact JrU (λ_ _ _ _ h=>h) hl h
 obtain⟨n0,x0,e0,S0,h0,rfl,n1,x1,e1,S1,h1,rfl,n2,x2,e2,S2,h2,hq⟩:=hx;rcases hq with⟨rfl,hq⟩ |⟨rfl,n3,x3,e3,S3,h3,hq⟩
 ·obtain⟨r,S',hr,hq⟩:=ho _ _ hq;refine fin_ (n0+n1+n2) r S' ?_ hq;unfold Jhj;rw[hex O h0];simp only;rw[hex O h1];simp only;rw[hex O h2];exact hr
 ·rcases hq with⟨rfl,hq⟩ |⟨t,v,x,y,z,rfl,hx,hy,hz,n4,x4,e4,S4,h4,rfl,hq⟩
  ·obtain⟨r,S',hr,hq⟩:=ho _ _ hq;refine fin_ (n0+n1+n2+n3) r S' ?_ hq;unfold Jhj;rw[hex O h0];simp only;rw[hex O h1];simp only;rw[hex O h2];simp only;rw[hex O h3];exact hr
  ·obtain⟨r,S',hr,hq⟩:=ho _ _ hq;refine fin_ (n0+n1+n2+n3+n4) r S' ?_ hq;unfold Jhj;rw[hex O h0];simp only;rw[hex O h1];simp only;rw[hex O h2];simp only;rw[hex O h3];simp only[hx,hy,hz];rw[hex O h4];exact hr
def Jk5:IC:=.region [[.nilp],[(.list 0 .full []),(.list 0 .full [])],[(Qz 0),(Qz 0)]] [Ql 0 1 (.box (.tmp 0)) [],Qq 1 2 (.alloc 0 [.nilp]),Qq 2 3 (.alloc 1 [(.list 0 .full []),(.list 0 .full [])]),Qq 3 4 (.alloc 2 [(Qz 0),(Qz 0)])] [1,2,3,4]
def Jk6:IC:=.region [] [Qe 0 9 2 1,Qc 1 10 55 [(.tmp 9)] [],Qm 2 8 10,Qx 3 11 8 0,Qx 4 12 8 1,Qs 5 1 2 11 [],Qs 6 2 4 12 []] [1,2,3,4]
def J0X:IC:=.region [] [Qf 0 13 0 4,Qd 1 14 13,Qv 2 15 .neq 14 (Qz 0)] [1,2,3,4,15]
def J0Y:IC:=.region [] [Qq 0 16 (.build [(.list 0 .full []),(.list 0 .full [])] []),Qe 1 17 2 4,Qw 2 (.store 1 (.tmp 2) (.const .nilp)) [1],Qs 3 2 3 16 [1],Qs 4 2 4 17 []] [2,3,4]
def J0Z:IC:=.region [] [Qf 0 19 0 1,Qd 1 20 19,Qn 2 21 20,Qk 3 22 (Qz 0)] [1,2,3,4,20,21,22]
def J00:IC:=.region [] [Qb 0 23 .lss 22 21] [1,2,3,4,20,21,22,23]
def J01:IC:=.region [[(.str []),(.bool false),(.str []),(.list 0 .full []),(.list 0 .full []),(.list 0 .full []),(.list 0 .full []),(.list 0 .full []),(Qz 0)]] [Qi 0 24 9 20 22,Qe 1 25 9 24,Qq 2 6 (.alloc 0 [(.str []),(.bool false),(.str []),(.list 0 .full []),(.list 0 .full []),(.list 0 .full []),(.list 0 .full []),(.list 0 .full []),(Qz 0)]),Qs 3 9 6 25 []] [1,2,3,4,6,20,21,22]
def J02:IC:=.region [] [Qf 0 26 0 3,Qd 1 27 26,Qd 2 28 2,Qe 3 29 9 6,Qc 4 30 77 [(.tmp 28),(.tmp 29)] [1],Qq 5 31 (.mkList 9 [(.tmp 30)]),Ql 6 32 (.append 9 168 (.tmp 27) (.tmp 31)) [],Qf 7 33 0 3,Qs 8 1 33 32 []] [1,2,3,4,20,21,22]
def J03:IC:=.region [] [Qv 0 34 .add 22 (Qz 1),Qm 1 22 34] [1,2,3,4,20,21,22]
def J04:IC:=.region [] [Qd 0 35 2,Qq 1 36 (.build [.nilp,(.str []),(.list 0 .full []),(.bool false),(.list 0 .full []),(.bool false)] [(0,1,(.tmp 35))]),Ql 2 37 (.box (.tmp 36)) [],Qm 3 7 37] [1,2,3,4,7]
def JSi:IC:=.region [] [Qm 0 38 7,Qf 1 39 1 1,Qd 2 40 39,Qc 3 41 78 [(.tmp 38),(.tmp 40)] [],Qf 4 42 1 3,Qs 5 1 42 41 []] [2,3,4]
def JSj:IC:=.region [] [Qe 0 44 2 3,Qc 1 45 55 [(.tmp 44)] [],Qm 2 43 45,Qx 3 46 43 0,Qx 4 47 43 1,Qs 5 1 2 46 [],Qs 6 2 4 47 []] [2,3,4]
def JSk:IC:=.region [] [Qd 0 48 2,Qe 1 49 2 3,Qe 2 50 2 4,Qs 3 1 2 48 [1,2],Qs 4 2 3 49 [2],Qs 5 2 4 50 []] [2,3,4]
def J05:IC:=.region [[(Qz 0),(Qz 0)]] [Qm 0 10 3,Qq 1 11 (.tassert 143 (.agg [(Qz 0),(Qz 0)]) (.tmp 10)),Qm 2 9 11,Qx 3 12 9 0,Qx 4 13 9 1,Qq 5 4 (.alloc 0 [(Qz 0),(Qz 0)]),Qs 6 2 4 12 [],Qm 7 5 13] [0,1,2,3,4,5]
def J06:IC:=.region [] [Qm 0 14 5,Qu 1 15 14] [0,1,2,3,4,15]
def J07:IC:=.region [] [Qm 0 16 3,Qw 1 (.panic (.tmp 16)) []] [0,1,2,4]
def J08:IC:=.region [] [Qq 0 17 (.build [(.list 0 .full []),(.list 0 .full [])] []),Qf 1 18 0 4,Qe 2 19 2 18,Qw 3 (.store 1 (.tmp 0) (.const .nilp)) [2],Qs 4 2 1 17 [2],Qs 5 2 2 19 []] []
def Jqa:IC:=.seq J0X (.cond (.tmp 15) (.seq J0Y .ret) .skip)
def Jqb:IC:=.seq (.seq J0Z (.block 0 (.loop [1,2,3,4,20,21,22] (.seq J00 (.seq (.cond (.tmp 23) .skip (.exit 0)) (.seq (.block 1 (.seq J01 J02)) J03)))))) (.seq J04 (.seq JSi (.seq JSj (.seq JSk .ret))))
def Jj3:IC:=.seq J05 (.seq (.seq J06 (.cond (.tmp 15) J07 .skip)) J08)
def Jce:List RVar:=[.cell 2 none,.cell 3 (some 2),.cell 4 (some 2)]
def Xc{α:Type}(x:Er α):Prop:=∀ c,x=.error c->c.1≠0
theorem Kg{α:Type}{y:α}:Xc (.ok y:Er α):=λc h=>EB
theorem Kv{α:Type}{k a:Int}(h:k≠0):Xc (Kz k a:Er α):=λc hc=>by cases hc;exact h
theorem JE{α β:Type}{x:Er α}{f:α->Er β}(h:Xc x)(hf:∀ y,x=.ok y->Xc (f y)):Xc (x.bind f):=λc hc=>by
 cases x with
 | error d=>cases hc;exact h _ rfl
 | ok y=>exact hf y rfl c hc
theorem Jk7(f:Int×Int):Xc (Jab f):=λc hc=>by
 unfold Jab at hc;split at hc
 ·cases hc
 ·rename_i h;cases hc;exact h
section
variable (cs:List Cls) (U:List (List Nat))
theorem Jk8(x:Xp)(t:Ty)(a:Int):Xc (JcV cs U x t a):=by
 unfold JcV;split
 ·exact Kg
 ·exact Kv Aj
theorem JjE(x:Xp)(n:Jk)(a:Int):Xc (XU cs x n a):=by
 unfold XU;split
 ·exact Kv Aj
 ·split
  ·exact Kg
  ·exact Kv Aj
theorem Js7(op n:Jk)(l:List Xp)(ty:List Ty)(a:Int):Xc (Jaa cs U op n l ty a):=by
 unfold Jaa;split
 ·split
  ·split
   ·exact Kg
   ·exact Kv Aj
  ·exact Kg
 ·simp only;generalize (l.all λx=>V6 (Q4 x) == _)=bb;cases bb
  ·exact Kv Aj
  ·exact Kg
theorem Js8(op n:Jk)(l:List Xp)(a:Int):Xc (JdQ cs U op n l a):=by
 unfold JdQ;simp only;split
 ·exact Kv Aj
 ·split
  ·exact Kg
  ·exact Kv Aj
theorem Jqc(r:Room)(op n:Jk)(l:List Xp)(ty:List Ty)(a:Int):Xc (YU cs U r op n l ty a):=by
 unfold YU;split
 ·refine JE (JjE cs _ _ _) λf _=>?_;split
  ·exact Kv Aj
  ·exact Kg
 ·split
  ·exact Js8 cs U _ _ _ _
  ·split
   ·split
    ·split
     ·exact Kg
     ·exact Kv Aj
    ·exact Kg
   ·split
    ·split
     ·exact Kg
     ·exact Kv Aj
    ·exact Js7 cs U _ _ _ _ _
mutual
theorem Jb6:∀(x:Xp) (r:Room),Xc (exF cs U r x)
 | .mk op n l ty a,r=>by
  rw[JpK];split
  ·exact Kv Aj
  unfold JnZ;split
  ·exact Kg
  split
  ·exact Kg
  split
  ·exact Kg
  split
  ·split
   ·exact Kv Aj
   ·exact Kg
  split
  ·split
   ·exact Kg
   ·exact Kv Aj
  split
  ·unfold Jef;split
   ·exact Kv Aj
   ·split
    ·exact Kv Aj
    ·refine JE (Jbv l r none) λl' _=>?_;split
     ·exact Kg
     ·exact Kv Aj
  split
  ·unfold JgY;refine JE (Jk7 _) λ_ _=>JE (JjF ty) λty' _=>JE (Jbv l r none) λl' _=>?_;split
   ·split
    ·exact Kg
    ·exact Kv Aj
   ·exact Kg
  ·exact JE (Jbv l r _) λl' _=>Jqc cs U r op n l' ty a
theorem Jbv:∀(l:List Xp) (r:Room) (k:Option Int),Xc (QH cs U r k l)
 | [],r,k=>by rw[QH];exact Kg
 | x::l,r,k=>by
  rw[QH];refine JE (Jb6 x r) λy _=>?_;cases k with
  | none=>exact JE (Jbv l r none) λm _=>Kg
  | some k=>
   simp only;split
   ·exact Kv Aj
   ·exact JE (Jbv l r none) λm _=>Kg
theorem Jfr:∀(t:Ty) (r:Room),Xc (tyF cs U r t)
 | .mk k n u e p a,r=>by rw[tyF];exact JE (JjF e) λe' _=>JE (JoH p _) λp' _=>Kg
theorem JjF:∀(l:List Ty),Xc (YV cs U l)
 | []=>by rw[YV];exact Kg
 | t::l=>by rw[YV];exact JE (Jfr t _) λy _=>JE (JjF l) λm _=>Kg
theorem JoH:∀(l:List Xp) (r:Room),Xc (Jec cs U r l)
 | [],r=>by rw[Jec];exact Kg
 | x::l,r=>by rw[Jec];exact JE (Jb6 x _) λy _=>JE (Jk8 cs U _ _ _) λz _=>JE (JoH l r) λm _=>Kg
end
theorem VX(r:Room)(x:Xp)(t:Ty):Xc (QQ cs U r x t):=JE (Jb6 cs U x r) λ_y _=>Jk8 cs U _ _ _
theorem Jeo:∀(l:List Xp) (r:Room),Xc (Qg cs U r l)
 | [],r=>by rw[Qg];exact Kg
 | x::l,r=>by rw[Qg];exact JE (VX cs U _ _ _) λy _=>JE (Jeo l r) λm _=>Kg
theorem Jwm(r:Room)(kind n:Jk)(ty:List Ty)(exs:List Xp)(b e:List Sm)(a:Int):Xc (Jch cs U r kind n ty exs b e a):=by
 unfold Jch;split
 ·exact Kv Aj
 split
 ·exact JE (Jk7 _) λ_ _=>JE (Jfr cs U _ _) λt _=>JE (VX cs U _ _ _) λx _=>Kg
 ·refine JE (Jb6 cs U _ _) λx _=>?_;split
  ·exact Kv Aj
  ·exact Kg
theorem Jwn(r:Room)(kind n:Jk)(ty:List Ty)(exs:List Xp)(b e:List Sm)(a:Int):Xc (Jhi cs U r kind n ty exs b e a):=by
 unfold Jhi;split
 ·exact Kv Aj
 split
 ·exact Kv Aj
 split
 ·exact Kg
 ·exact JE (VX cs U _ _ _) λx _=>Kg
mutual
theorem JrV:∀(s:Sm) (r:Room),Xc (XD cs U r s)
 | .mk kind n ty exs b e a,r=>by
  rw[XD];split
  ·exact Jwm cs U _ _ _ _ _ _ _ _
  split
  ·split
   ·exact Kv Aj
   ·split
    ·exact Kv Aj
    ·exact JE (VX cs U _ _ _) λx _=>Kg
  split
  ·refine JE (Jb6 cs U _ _) λo _=>JE (JjE cs _ _ _) λf _=>?_;split
   ·exact Kv Aj
   ·exact JE (VX cs U _ _ _) λx _=>Kg
  split
  ·refine JE (Jb6 cs U _ _) λo _=>?_;split
   ·exact Kv Aj
   ·exact JE (VX cs U _ _ _) λx _=>JE (VX cs U _ _ _) λy _=>Kg
  split
  ·exact JE (VX cs U _ _ _) λx _=>JE (Jdu b r) λb' _=>JE (Jdu e r) λe' _=>Kg
  split
  ·exact JE (VX cs U _ _ _) λx _=>JE (Jeo cs U _ _) λl _=>JE (Jdu b r) λb' _=>Kg
  split
  ·exact JE (Jwn cs U _ _ _ _ _ _ _ _) λs _=>Kg
  split
  ·exact JE (VX cs U _ _ _) λx _=>Kg
  split
  ·exact JE (VX cs U _ _ _) λx _=>Kg
  ·exact JE (Jb6 cs U _ _) λx _=>Kg
theorem Jdu:∀(l:List Sm) (r:Room),Xc (blF cs U r l)
 | [],r=>by rw[blF];exact Kg
 | s::l,r=>by rw[blF];exact JE (JrV s r) λx _=>JE (Jdu l x.2) λm _=>Kg
end
theorem Jgf:∀(l:List Par) (r:Room),Xc (XE cs U r l)
 | [],r=>by rw[XE];exact Kg
 | p::l,r=>by rw[XE];exact JE (Jfr cs U _ _) λt _=>JE (Jgf l _) λx _=>Kg
theorem Jwo(own:Room)(m:Mth):Xc (Jbp cs U own m):=by
 unfold Jbp;refine JE (Jgf cs U _ _) λx _=>JE (Jfr cs U _ _) λt _=>?_;split
 ·exact Kg
 ·refine JE (Jdu cs U _ _) λb _=>?_;split
  ·exact Kv Aj
  ·exact Kg
theorem Jgg(c:Cls):∀(l:List Sm) (r:Room) (set:List Jk),Xc (VS cs U c r set l)
 | [],r,set=>by rw[VS];exact Kg
 | .mk kind n ty exs b e a::l,r,set=>by
  rw[VS];split
  ·exact JE (JrV cs U _ _) λx _=>JE (Jgg c l x.2 set) λy _=>Kg
  ·split
   ·exact Kv Aj
   ·split
    ·exact Kv Aj
    ·exact JE (VX cs U _ _ _) λx _=>JE (Jgg c l r _) λy _=>Kg
theorem Jwp(c:Cls)(k:Ctr):Xc (Jbq cs U c k):=by
 unfold Jbq;refine JE (Jgf cs U _ _) λx _=>JE (Jbv cs U _ _ _) λs _=>?_;split
 ·exact Kv Aj
 ·refine JE (Jgg cs U c _ _ _) λy _=>?_;split
  ·exact Kv Aj
  ·exact Kg
theorem Jc5{α:Type}{f:α->Er α}(h:∀ x,Xc (f x)):∀ l:List α,Xc (QZ f l)
 | []=>by rw[QZ];exact Kg
 | x::l=>by rw[QZ];exact JE (h x) λy _=>JE (Jc5 h l) λm _=>Kg
theorem Jwq(c:Cls):Xc (Jci cs U c):=by
 unfold Jci;refine JE (Jc5 (λf=>JE (Jfr cs U _ _) λt _=>Kg) _) λfs _=>JE (Jeo cs U _ _) λis _=>?_;split
 ·exact Kv Aj
 split
 ·exact Kv Aj
 ·exact JE (Jc5 (Jwp cs U c) _) λks _=>JE (Jc5 (Jwo cs U _) _) λms _=>Kg
theorem Jwr(p:Prg):Xc (JcX cs U p):=by unfold JcX;exact JE (Jc5 (Jwq cs U) _) λl _=>JE (Jdu cs U _ _) λm _=>Kg
end
structure LibZ(pr:Jz)(F:Nat->Option IFn):Prop extends LibY pr F where
 p42:pr 42=some (Jj2 Jk5 Jk6 Jqa Jqb Jj3 Jce)
def Js9:Prg:=⟨[],[]⟩
def ckR(t:AV)(q:Prg)(f:Int×Int):Res:=.ret (.tup [t,.agg (JU q),.agg (KF f.1 f.2)])
def Jqd(H:List Blk)(rw:List Nat)(p:Prg)(r:Res)(S':St):Prop:=
 (∃ rw',(JbV p.classes (QD p.classes)).1≠0/\Rx rw rw'/\r=ckR .nilp Js9 (JbV p.classes (QD p.classes))/\S'=⟨H,rw'⟩) \/
 (JbV p.classes (QD p.classes)=(0,0)/\Few p.classes /\
  ((∃(c:Int×Int) (rw':List Nat),JcX p.classes (QD p.classes) p=.error c/\Rx rw rw'/\r=ckR .nilp Js9 c/\S'=⟨H,rw'⟩) \/
   ∃(q:Prg) (H':List Blk) (rw':List Nat) (n:Nat),JcX p.classes (QD p.classes) p=.ok q/\JjU H H'/\H.length<=n/\Rx rw rw'/\TbU H' n q.classes (QD p.classes)/\Few q.classes/\Jq8 q.classes (QD p.classes)/\r=ckR (.ptr n 0) q (0,0)/\S'=⟨H',rw'⟩))
theorem TbU.off{G G':List Blk}{n lo hi:Nat}{cs:List Cls}{U:List (List Nat)}(T:TbU G n cs U)(h:∀ k c,G[k]? = some c->k<lo\/hi<=k->G'[k]? = some c)(hn:hi<=n)(hc:∀ k,lo<=k->k<hi->∃ v,G[k]? = some (.cells v)):TbU G' n cs U:=by
 obtain⟨mb,z,zb,tg,tb,o1,o2,o3,sl,h1,h2⟩:=T;have hmb:mb<lo\/hi<=mb:=by
  by_cases h3:mb<lo
  ·exact .inl h3
  ·by_cases h4:hi<=mb
   ·exact .inr h4
   ·obtain⟨v,hv⟩:=hc mb O O;have:=h1.mp;rw[hv]at this;cases this
 refine⟨mb,z,zb,tg,tb,o1,o2,o3,sl,?_,h2⟩;exact{at_:=h _ _ h1.at_ (.inr hn),sz:=h1.sz,few:=h1.few,big:=h1.big,mp:=h _ _ h1.mp hmb,linked:=h1.linked,unlike:=h1.unlike,wt:=h1.wt,okc:=h1.okc,ulen:=h1.ulen,ups:=h1.ups,acyc:=h1.acyc,zbs:=h1.zbs}
theorem JoI{H M X:List Blk}{n:Nat}{b:Blk}(hlt:n<H.length):JjU (hp H n b M) (hp H n b (M++X)):=by intro k c hk;rw[<- Jau hlt,AZ (Ac.1 hk).1];exact hk
theorem Jb7{G H:List Blk}(h:JjU G H):∃ R,H=G++R:=by
 refine⟨H.drop G.length,?_⟩;have h1:H.take G.length=G:=by
  apply Cm;intro i;by_cases hi:i<G.length
  ·rw[Bi hi,Ab hi];exact h i _ (Ab hi)
  ·rw[A5 EW,A5 O]
 conv=>lhs;rw[<- List.take_append_drop G.length H,h1]
theorem TbU.own3{H R X:List Blk}{bz A B C A' B' C':Blk}{n:Nat}{cs:List Cls}{U:List (List Nat)}(hlt:0<H.length)(T:TbU (hp H 0 bz (A::B::C::R)) n cs U)(hn:H.length+3<=n)(hA:∃ v,A=.cells v)(hB:∃ v,B=.cells v)(hC:∃ v,C=.cells v):TbU (hp H 0 bz (A'::B'::C'::(R++X))) n cs U:=by
 refine T.off (lo:=H.length) (hi:=H.length+3) (λk c hk hr=>?_) hn λk h1 h2=>?_
 ·rcases hr with hr |hr
  ·have e:∀ M:List Blk,(hp H 0 bz M)[k]? =(hp H 0 bz [])[k]?:=λM=>by have h3:=JR (b:=bz) (L:=M) hlt;rw[<- h3,Bi hr]
   rw[e]at hk |-;exact hk
  ·obtain⟨j,rfl⟩:∃ j,k=H.length+(j+3):=⟨k-H.length-3,O⟩
   rw[Vq hlt]at hk |-;exact Vj (J:=R) hk
 ·obtain⟨j,rfl⟩:∃ j,k=H.length+j:=⟨k-H.length,O⟩
  rw[Vq hlt];obtain⟨va,rfl⟩:=hA;obtain⟨vb,rfl⟩:=hB;obtain⟨vc,rfl⟩:=hC;rcases j with _ |_ |_ |j
  ·exact⟨_,rfl⟩
  ·exact⟨_,rfl⟩
  ·exact⟨_,rfl⟩
  ·omega
theorem Jdv{rs:List RVar}{t n off:Nat}{k:Option Nat}{e:KC}{H:List Blk}{v:AV}{vs:List AV}(he:Jj e t=some (.ptr n off))(hr:QT rs e H=some vs)(hl:J9 k (.ptr n off) H=some v):QT (.cell t k::rs) e H=some (v::vs):=by simp only[QT,he,hr,hl]
theorem JmB{H M:List Blk}{n:Nat}{b:Blk}{kd:Nat}{cs vs:List AV}(hlt:n<H.length)(j:Nat)(hM:M[j]? = some (.cells cs))(hc:(if 0+kd<=cs.length then some (AV.agg (Jh ((cs.drop 0).take kd)))else none)=some (.agg vs)):J9 (some kd) (.ptr (H.length+j) 0) (hp H n b M)=some (.agg vs):=by have e1:=(Vq (b:=b) (L:=M) hlt j).trans hM;simp only[J9,e1];exact hc
theorem JrW{H J:List Blk}{bz:Blk}{rw:List Nat}{c:Int×Int}{e:KC}{Q:Res->St->Prop}{bs fs:List AV}(hlt:0<H.length)(hz:H[0]? = some bz)(h2:Jj e 2=some (.ptr (H.length+0) 0))(h3:Jj e 3=some (.ptr (H.length+1) 0))(h4:Jj e 4=some (.ptr (H.length+2) 0))(hb:bs=[.list 0 .full [],.list 0 .full []])(hf:fs=KF c.1 c.2)(h:Q (ckR .nilp Js9 c) ⟨H,rw⟩) :
  fin Jce H.length Q .ret e ⟨hp H 0 bz (.cells [.nilp]::.cells bs::.cells fs::J),rw⟩:=by
 subst hb hf;have e1:QT Jce e (hp H 0 bz (.cells [.nilp]::.cells [.list 0 .full [],.list 0 .full []]::.cells (KF c.1 c.2)::J))=some [.nilp,.agg (JU Js9),.agg (KF c.1 c.2)]:=
  Jdv h2 (Jdv h3 (Jdv h4 rfl (JmB hlt 2 rfl rfl)) (JmB hlt 1 rfl rfl)) (by simp only[J9,Vq hlt];rfl)
 have hH:(hp H 0 bz (.cells [.nilp]::.cells [.list 0 .full [],.list 0 .full []]::.cells (KF c.1 c.2)::J)).take H.length=H:=by rw[JR hlt,<- Xi hz]
 exact X7 e1 rfl hH h
theorem JDr{H J:List Blk}{bz:Blk}{rw:List Nat}{n:Nat}{q:Prg}{e:KC}{Q:Res->St->Prop}(hlt:0<H.length)(h2:Jj e 2=some (.ptr (H.length+0) 0))(h3:Jj e 3=some (.ptr (H.length+1) 0))(h4:Jj e 4=some (.ptr (H.length+2) 0))(hn:H.length<=n)(h:Q (ckR (.ptr n 0) q (0,0)) ⟨hp H 0 bz (.cells [.ptr n 0]::.cells (JU q)::.cells (KF 0 0)::J),rw⟩) :
  fin Jce H.length Q .ret e ⟨hp H 0 bz (.cells [.ptr n 0]::.cells (JU q)::.cells (KF 0 0)::J),rw⟩:=by
 have hq:Jh (JU q)=JU q:=(QM _).can;have e2:QT Jce e (hp H 0 bz (.cells [.ptr n 0]::.cells (JU q)::.cells (KF 0 0)::J))=some [.ptr n 0,.agg (JU q),.agg (KF 0 0)]:=
  Jdv h2 (Jdv h3 (Jdv h4 rfl (JmB hlt 2 rfl rfl)) (JmB hlt 1 rfl (congrArg (λz=>some (AV.agg z)) hq))) (by simp only[J9,Vq hlt];rfl)
 have h5:Ai.below H.length (.tup [.ptr n 0,.agg (JU q),.agg (KF 0 0)])=false:=by have:¬ n<H.length:=O;simp[Ai.below,Ai.belowL,this]
 simp only[fin,e2,X2,Y4,h5,Jcl,Y3,Ap,AC,AT,if_false];exact h
theorem Jk9{b0:Nat}{c:IC}{e:KC}{S:St}{Q:Ex->KC->St->Prop}(h:At pr F b0 Q c [] e S):Wx pr F b0 c e S Q:=Wx.mono h.h λ_ _ _ h=>h
theorem JDs(L:LibY pr F){H J:List Blk}{bz:Blk}{rw:List Nat}{c:Int×Int}{Q:Res->St->Prop}{va b1 b2 f1 f2:AV}(hlt:0<H.length)(hz:H[0]? = some bz)(h:Q (ckR .nilp Js9 c) ⟨H,rw⟩) :
  Wx pr F H.length Jj3 [(0,.ptr (H.length+0) 0),(1,.ptr (H.length+1) 0),(2,.ptr (H.length+2) 0),(3,Xs c)] ⟨hp H 0 bz (.cells [va]::.cells [b1,b2]::.cells [f1,f2]::J),rw⟩ λx _e4 S4=>x=.normal/\fin Jce H.length Q .ret [(2,.ptr (H.length+0) 0),(3,.ptr (H.length+1) 0),(4,.ptr (H.length+2) 0)] S4:=by
 have hm:=L.hm;refine Jk9 ?_;unfold Jj3;refine' JM;exact⟨rfl,JrW (c:=c) hlt hz rfl rfl rfl rfl rfl h⟩
theorem JjG(L:LibZ pr F){p:Prg}(hok:JdG p)(hw:wL Xx p.classes+Qj p.main<=64800000)(hfew:p.classes.length<=8000)
  (H:List Blk) (rw:List Nat) (hH:0<H.length):Wp pr F 42 [.agg (JU p)] ⟨H,rw⟩ (Jqd H rw p):=by
 have hm:=L.hm;obtain⟨bz,hbz⟩:∃ b,H[0]? = some b:=⟨_,Ab hH⟩
 have hR:Rx rw rw:=Rx.rfl;obtain⟨cs,mn⟩:=p;simp only at hw hfew;obtain⟨z,tg,hz,hz2,hz3⟩:=YM (sz:=9) (rows:=cs.map Jc);have hlc:(cs.map Jc).length=cs.length:=Ak _;have hcan:Jh (JU ⟨cs,mn⟩)=JU ⟨cs,mn⟩:=(QM _).can;refine JSh hm L.p42 rfl ?_;dsimp only;refine Wx.mono (Jk9 (Q:=λx e0 S0=>x=.normal/\e0=[(1,.ptr (H.length+3) 0),(2,.ptr (H.length+0) 0),(3,.ptr (H.length+1) 0),(4,.ptr (H.length+2) 0)]/\S0=⟨hp H 0 bz [.cells [.nilp],.cells [.list 0 .full [],.list 0 .full []],.cells [.int .i64 0,.int .i64 0],.cells (JU ⟨cs,mn⟩)],rw⟩) ?_) ?_
 ·have hst:(⟨H,rw⟩:St)=⟨hp H 0 bz [],rw⟩:=by rw[<- Xi hbz]
  rw[hst];have hlt:=hH;unfold Jk5;refine' JM;exact⟨rfl,rfl,rfl⟩
 rintro x e0 S0 ⟨rfl,rfl,rfl⟩;refine⟨rfl,Jk9 ?_⟩;have hlt:=hH;have hcw:wL V1 cs<=64800000:=by have:=Jul cs;omega
 unfold Jk6;refine' JM;obtain⟨r,S',hd,hN⟩:=(JuN L.toLibF ⟨cs,mn⟩ (JiK hok) hcw hfew (hp H 0 bz [.cells [.nilp],.cells [.list 0 .full [],.list 0 .full []],.cells [.int .i64 0,.int .i64 0],.cells (JU ⟨cs,mn⟩)]) rw).det hm;rcases hN with⟨f,rw2,hf0,hf,hR2,rfl,rfl⟩ |⟨H',rw2,n,mb,z5,zb,tg5,tb,U,hK,hn,hR2,T,hall,hfw,hne,rfl,rfl⟩
 ·refine Je rfl rfl rfl ?_;refine Ks hd ?_;clear hd;refine JQ ?_;refine' JM;refine⟨rfl,Jk9 ?_⟩;unfold Jqa;refine' JM;left;refine⟨rfl,?_⟩;exact JrW (c:=f) hlt hbz rfl rfl rfl rfl (KA _ _).can (.inl ⟨rw2,by rw[<- hf];exact hf0,hR2,by rw[<- hf],rfl⟩)
 ·have hU:=JlY T.ulen T.ups;have TT:TbU H' n cs U:=⟨mb,z5,zb,tg5,tb,_,_,_,_,T,rfl⟩
  obtain⟨R,hHR⟩:=Jb7 hK;rw[Jau hlt]at hHR;simp only[Aw,Au]at hHR;subst hHR;refine Je rfl rfl rfl ?_;refine Ks hd ?_;clear hd;refine JQ ?_;refine' JM;refine⟨rfl,Jk9 ?_⟩;unfold Jqa;refine' JM;right;refine⟨rfl,Jk9 ?_⟩;unfold Jqb;refine' JM;have hn3:H.length+3<=n:=by rw[XO]at hn;simp only[Ad,Af]at hn;omega
  subst hU;have C:Cst cs (QD cs):=⟨hfw,⟨JiK hok,hcw⟩⟩
  have T0:=TT.own3 (A':=.cells [.ptr n 0]) (B':=.cells [.list 0 .full [],.list 0 .full []]) (C':=.cells (KF 0 0)) (X:=[]) hlt hn3 ⟨_,rfl⟩ ⟨_,rfl⟩ ⟨_,rfl⟩;rw[Ar]at T0;have pan:∀(c:Int×Int) (va b1 b2 f1 f2:AV) (J:List Blk) (rw':List Nat) (e:KC),JcX cs (QD cs) ⟨cs,mn⟩=.error c->Rx rw rw'->(Ex.panic (Xs c)=Ex.ret/\fin Jce H.length (Jqd H rw ⟨cs,mn⟩) Ex.ret e ⟨hp H 0 bz (.cells [va]::.cells [b1,b2]::.cells [f1,f2]::J),rw'⟩)\/∃ t v x2 y z,Ex.panic (Xs c)=Ex.panic (AV.iface t v)/\Jj [(1,AV.ptr (H.length+3) 0),(2,AV.ptr (H.length+0) 0),(3,AV.ptr (H.length+1) 0),(4,AV.ptr (H.length+2) 0),(15,AV.bool false)] 2=some x2/\Jj [(1,AV.ptr (H.length+3) 0),(2,AV.ptr (H.length+0) 0),(3,AV.ptr (H.length+1) 0),(4,AV.ptr (H.length+2) 0),(15,AV.bool false)] 3=some y/\Jj [(1,AV.ptr (H.length+3) 0),(2,AV.ptr (H.length+0) 0),(3,AV.ptr (H.length+1) 0),(4,AV.ptr (H.length+2) 0),(15,AV.bool false)] 4=some z /\
    Wx pr F H.length Jj3 [(0,x2),(1,y),(2,z),(3,AV.iface t v)] ⟨hp H 0 bz (.cells [va]::.cells [b1,b2]::.cells [f1,f2]::J),rw'⟩ λx e4 S4=>x=Ex.normal/\fin Jce H.length (Jqd H rw ⟨cs,mn⟩) Ex.ret [(2,x2),(3,y),(4,z)] S4:=λc va b1 b2 f1 f2 J rw' e hc hr=>.inr ⟨_,_,_,_,_,rfl,rfl,rfl,rfl,JDs L.toLibY hlt hbz (.inr ⟨hne,hfw,.inl ⟨c,rw',hc,hr,rfl,rfl⟩⟩)⟩
  refine JB hm (λmm e S'=>∃(q:Nat) (done:List Cls) (J:List Blk) (lv:AV) (rw3:List Nat),S'=⟨hp H 0 bz (.cells [.ptr n 0]::.cells [lv,.list 0 .full []]::.cells (KF 0 0)::.cells (JU ⟨cs,mn⟩)::J),rw3⟩/\q<=cs.length/\done.length=q/\TbU (hp H 0 bz (.cells [.ptr n 0]::.cells [lv,.list 0 .full []]::.cells (KF 0 0)::.cells (JU ⟨cs,mn⟩)::J)) n cs (QD cs)/\Lst rw2 9 lv (done.map Jc) rw3/\Rx rw2 rw3 /\
   QZ (Jci cs (QD cs)) cs=((QZ (Jci cs (QD cs)) (cs.drop q)).bind λm=>.ok (done++m))/\mm=cs.length-q /\
   e=[(1,.ptr (H.length+3) 0),(2,.ptr (H.length+0) 0),(3,.ptr (H.length+1) 0),(4,.ptr (H.length+2) 0),(20,Kp 9 (cs.map Jc)),(21,.int .i64 ((cs.map Jc).length:Int)),(22,.int .i64 q)]) ?_ (m:=cs.length) ⟨0,[],R,_,rw2,rfl,O,rfl,T0,Lst.nil,Rx.rfl,?_,rfl,rfl⟩
  rotate_left
  ·simp only[AA,Au];cases QZ (Jci cs (QD cs)) cs <;> rfl
  clear T0 TT T;rintro mm e S' ⟨q,done,J,lv,rw3,rfl,hq0,hdl,T,hli,hR3,hod,rfl,rfl⟩;have hdl2:(done.map Jc).length=done.length:=Ak _;have T1:=λ(X:List Blk)=>T.own3 (A':=.cells [.ptr n 0]) (B':=.cells [lv,.list 0 .full []]) (C':=.cells (KF 0 0)) (X:=X) hlt hn3 ⟨_,rfl⟩ ⟨_,rfl⟩ ⟨_,rfl⟩;by_cases hq:q<cs.length
  ·obtain⟨x,hx⟩:∃ x,cs[q]? = some x:=⟨_,Ab hq⟩
   have hxr:(cs.map Jc)[q]? = some (Jc x):=E7
   have hl9:Kp 9 (cs.map Jc)=.list 9 .dead (cs.map Jc):=Kf (i:=q) O;rw[Jfq hx]at hod;have hxm:=Aq hx;have hxw:=Q3 (w:=Xx) hxm;rw[hl9];refine' JM;obtain⟨rw5,hR5,hd⟩:=Jwk L.toLibY C (T1 [.cells (Jc x)]) hxm (hok.1 x hxm) O (rw:=rw3);refine Kk hd rfl rfl rfl ?_ ?_
   ·intro c hc;rw[hc]at hod;replace hod:QZ (Jci cs (QD cs)) cs=.error c:=hod;refine KM (pan c _ _ _ _ _ _ _ _ ?_ ((hR2.trans hR3).trans hR5));unfold JcX;rw[hod];rfl
   intro x' v hvx hc;rw[hc]at hod;change v=.agg (Jc x')at hvx;subst hvx;clear hd;replace hli:=hli.ext hR5;replace hR3:=hR3.trans hR5;refine JQ ?_;refine Qp ?_;refine Q1 rfl (vs:=[.agg (Jc x')]) rfl ?_;refine Z2 (KT x') ?_;refine JT ?_;refine JW rfl rfl rfl ?_;refine QB hli hR3 AH AH O ?_;intro l4 rw7 hl4 hR7;obtain⟨s4,t4,rfl,-,-⟩:=hl4.isL.ex;refine JQ ?_;refine' JM;refine⟨cs.length-(q+1),O,q+1,done++[x'],_,_,rw7,rfl,O,Fu,T.own3 (R:=.cells (JU ⟨cs,mn⟩)::J) (X:=[.cells (Jc x)]) hlt hn3 ⟨_,rfl⟩ ⟨_,rfl⟩ ⟨_,rfl⟩,Ek,hR7,?_,rfl,by first |rfl |(rw[hl9];rfl)⟩;rw[hod];show((QZ (Jci cs (QD cs)) (cs.drop (q+1))).bind λm=>.ok (x'::m)).bind _=_;cases QZ (Jci cs (QD cs)) (cs.drop (q+1)) <;> simp[Except.bind]
  ·rw[AU O,QZ]at hod;replace hod:QZ (Jci cs (QD cs)) cs=.ok (done++[]):=hod;rw[Ar]at hod;have hres:JcX cs (QD cs) ⟨cs,mn⟩=(blF cs (QD cs) Vy mn).bind λm=>.ok ⟨done,m⟩:=by unfold JcX;rw[hod];rfl
   have hcn1:=hli.isL.canon;obtain⟨s1,t1,rfl,-,-⟩:=hli.isL.ex;replace hR:=hR2.trans hR3;refine' JM;have hrb:(hp H 0 bz (.cells [.ptr n 0]::.cells [.list s1 t1 (done.map Jc),.list 0 .full []]::.cells (KF 0 0)::.cells (JU ⟨cs,mn⟩)::(J++[.cells (JC n Vy)])))[H.length+(J.length+4)]? = some (.cells (JC n Vy)):=Jem hlt Ag;obtain⟨v2,rw4,hi2,hR4,hd⟩:=JRY L.toLibY C mn hok.2 _ rw3 (H.length+(J.length+4)) n Vy (T1 [.cells (JC n Vy)]) hrb ⟨.inl rfl,λv hv=>Fd,λv hv=>Fd⟩ Ck O (by simp[Vy]);refine Kk hd rfl rfl rfl ?_ ?_
   ·intro c hc;exact pan c _ _ _ _ _ _ _ _ (by rw[hres,hc];rfl) (hR.trans hR4)
   intro m v hvx hc;subst hvx;rw[hc]at hres;replace hres:JcX cs (QD cs) ⟨cs,mn⟩=.ok ⟨done,m⟩:=hres;replace hi2:=hi2 m hc;clear hd;replace hR:=hR.trans hR4;have hcn2:=hi2.canon;obtain⟨s2,t2,rfl,-,-⟩:=hi2.ex;have hcc:Jh [.list s1 t1 (done.map Jc),.list s2 t2 (Jg m)]=JU ⟨done,m⟩:=by simp only[Jh,Ap,AC,hcn1,hcn2,JU]
   obtain⟨hhd,hwk,hwl⟩:=Jwe hres;simp only at hhd hwk hwl;have hne2:JbV done (QD done)=(0,0):=by rw[JoB hhd,JR7 hhd,hne]
   refine JQ ?_;refine' JM;rw[hcc];obtain⟨r,S',hd,hN⟩:=(JuN L.toLibF ⟨done,m⟩ (hwk (JiK hok)) Bd Bd (hp H 0 bz (.cells [.ptr n 0]::.cells [.list s1 t1 (done.map Jc),.list s2 t2 (Jg m)]::.cells (KF 0 0)::.cells (JU ⟨cs,mn⟩)::(J++[.cells (JC n Vy)]))) rw4).det hm;rcases hN with⟨f,rw5,hf0,hf,-,-,-⟩ |⟨H2,rw5,n2,mb2,z6,zb2,tg6,tb2,U2,hK2,hn2,hR5,T2,hall2,hfw2,-,rfl,rfl⟩
   ·simp only at hf;rw[hf,hne2]at hf0;exact absurd rfl hf0
   have hU2:=JlY T2.ulen T2.ups;simp only at hU2 hall2 hfw2;rw[JoB hhd]at hU2;have TT2:TbU H2 n2 done U2:=⟨mb2,z6,zb2,tg6,tb2,_,_,_,_,T2,rfl⟩
   subst hU2;obtain⟨R2,hHR⟩:=Jb7 hK2;rw[Jau hlt]at hHR;simp only[Aw]at hHR;subst hHR;have hn4:H.length+3<=n2:=by rw[XO]at hn2;simp only[Ad]at hn2;omega
   replace hR:=hR.trans hR5;refine Je rfl rfl rfl ?_;refine Ks hd ?_;clear hd;refine JQ ?_;refine' JM;rw[hcc,(KA 0 0).can];refine .inl ⟨rfl,JDr (q:=⟨done,m⟩) hlt rfl rfl rfl O ?_⟩;refine .inr ⟨hne,hfw,.inr ⟨⟨done,m⟩,_,rw5,n2,hres,?_,O,hR,TT2.own3 (X:=[]) hlt hn4 ⟨_,rfl⟩ ⟨_,rfl⟩ ⟨_,rfl⟩,hfw2,hall2,rfl,by rw[Ar]⟩⟩;rw[Ar];exact X6 hbz _
def JDt:Sm->List Xp
 | .mk _ _ _ l _ _ _=>l
def JDu:Sm->List Sm
 | .mk _ _ _ _ b _ _=>b
def JDv:Sm->List Sm
 | .mk _ _ _ _ _ e _=>e
theorem TbU.disp(L:LibW pr F){H:List Blk}{rw:List Nat}{nt:Nat}{cs:List Cls}{U:List (List Nat)}(T:TbU H nt cs U)(s sig:Jk) :
  ∃ rw',Rx rw rw'/\Det pr F 26 [.ptr nt 0,.str s,.str sig] ⟨H,rw⟩ (.ret (JcS cs sig (XL cs U s sig))) ⟨H,rw'⟩:=by
 obtain⟨mb,z,zb,tg,tb,o1,o2,o3,sl,h1,h2⟩:=T;exact Jfb L.toLibE h1 s sig
theorem JSl{cs:List Cls}{U:List (List Nat)}(h:ClsOk cs){s sig:Jk}{j:Nat}{m:Mth}(hd:XL cs U s sig=some (j,m)):(∀ p∈m.params,Zm p.type)/\m.params.length<=64800000:=by have h1:((sig,Zc cs j,m):Jk×Jk×Mth)∈V5 cs U s:=Jds.2 ⟨j,hd,rfl⟩;have h2:=Jl3 h (Jee h1);exact⟨h2.par,h2.len⟩
section
variable {cs cs':List Cls} {U:List (List Nat)}
theorem Jta(h:all2 HdC cs cs'){n:Jk}{l:List Xp}(hg:Jgc cs U n l):Jgc cs' U n l:=by obtain⟨on,rest,j,m,rfl,hd,hl,hf⟩:=hg;obtain⟨m',hd',-,hp,-⟩:=JDn h U hd;refine⟨on,rest,j,m',rfl,hd',by rw[hp.len,hl],λk e p' he hp'=>?_⟩;obtain⟨p,hp2,hhd⟩:=hp.get' hp';obtain⟨h1,h2⟩:=hf k e p he hp2;exact⟨by rw[JDm h U HdT.rfl hhd.2.1];exact h1,h2⟩
mutual
theorem JSm(h:all2 HdC cs cs'):∀ x:Xp,gdX cs U x->gdX cs' U x
 | .mk op n l ty a,hg=>by simp only[gdX]at hg |-;exact⟨JmC h l hg.1,hg.2.1,λho=>Jta h (hg.2.2 ho)⟩
theorem JmC(h:all2 HdC cs cs'):∀ l:List Xp,ZW cs U l->ZW cs' U l
 | [],_=>by simp only[ZW]
 | x::l,hg=>by simp only[ZW]at hg |-;exact⟨JSm h x hg.1,JmC h l hg.2⟩
end
mutual
theorem JSn(h:all2 HdC cs cs'):∀ x:Sm,gdS cs U x->gdS cs' U x
 | .mk kind n ty exs b e a,hg=>by simp only[gdS]at hg |-;exact⟨⟨JmC h exs hg.1.1,hg.1.2⟩,⟨Jdw h b hg.2.1.1,hg.2.1.2⟩,Jdw h e hg.2.2.1,hg.2.2.2⟩
theorem Jdw(h:all2 HdC cs cs'):∀ l:List Sm,Z6 cs U l->Z6 cs' U l
 | [],_=>by simp only[Z6]
 | x::l,hg=>by simp only[Z6]at hg |-;exact⟨JSn h x hg.1,Jdw h l hg.2⟩
end
end
def Jc6(pr:Jz)(F:Nat->Option IFn)(cs:List Cls)(U:List (List Nat))(l:List Xp):Prop:=∀(H:List Blk) (rw:List Nat) (nt:Nat),TbU H nt cs U->∃ rw',Rx rw rw'/\Det pr F 79 [.ptr nt 0,Kp 5 (Ja l)] ⟨H,rw⟩ (.ret (.bool true)) ⟨H,rw'⟩
def Zg(pr:Jz)(F:Nat->Option IFn)(cs:List Cls)(U:List (List Nat))(l:List Sm):Prop:=∀(H:List Blk) (rw:List Nat) (nt:Nat),TbU H nt cs U->∃ rw',Rx rw rw'/\Det pr F 43 [.ptr nt 0,Kp 7 (Jg l)] ⟨H,rw⟩ (.ret (.bool true)) ⟨H,rw'⟩
theorem Jla(L:LibY pr F)(f79:QG pr F 79 i79){cs:List Cls}{U:List (List Nat)}(hok:ClsOk cs){l:List Xp}(hl:l.length<=64800000)(hA:∀ x∈l,Jc6 pr F cs U (asX x))(hG:∀ x∈l,opX x=[99,97,108,108]->Jgc cs U (nmX x) (asX x)/\(asX x).length<=64800000):Jc6 pr F cs U l:=by
 intro H rw nt T;have hm:=L.hm;suffices h:Wp pr F 79 [.ptr nt 0,Kp 5 (Ja l)] ⟨H,rw⟩ λr' S'=>∃ rw',Rx rw rw'/\r'=.ret (.bool true)/\S'=⟨H,rw'⟩ by obtain⟨r',S',hd,rw',h1,rfl,rfl⟩:=h.det hm;exact⟨rw',h1,hd⟩
 have hR:Rx rw rw:=Rx.rfl;obtain⟨bt,hbt⟩:=T.at;have hlt:=T.lt;have T1:=λM=>T.keep (X6 hbt M);have hel:=JV l;refine Kw hm f79.1 f79.2 rfl (Xi hbt) ?_;refine' JM;refine JB hm (λmm e S'=>∃(q:Nat) (J:List Blk) (rw3:List Nat),S'=⟨hp H nt bt J,rw3⟩/\q<=l.length/\Rx rw rw3/\mm=l.length-q /\
   e=[(0,.ptr nt 0),(1,Kp 5 (Ja l)),(5,.int .i64 q)]) ?_ (m:=l.length) ⟨0,_,_,rfl,O,hR,rfl,rfl⟩
 clear hR;rintro mm e S' ⟨q,J,rw3,rfl,hq0,hR,rfl,rfl⟩;by_cases hq:q<l.length
 ·obtain⟨x,hx⟩:∃ x,l[q]? = some x:=⟨_,Ab hq⟩
  have hxr:(Ja l)[q]? = some (Jb x):=Fq
  have hl5:Kp 5 (Ja l)=.list 5 .dead (Ja l):=Kf (i:=q) O;have hxm:=Aq hx;have hA1:=hA x hxm;have hG1:=hG x hxm;obtain⟨op,n,as_,ty,a⟩:=x;simp only[asX,opX,nmX]at hA1 hG1;rw[hl5];refine' JM;obtain⟨rw4,hR4,hd⟩:=hA1 (hp H nt bt J) rw3 nt (T1 J);refine Je rfl rfl rfl ?_;refine Ks hd ?_;clear hd;replace hR:=hR.trans hR4;refine JQ ?_;by_cases ho:op=[99,97,108,108]
  ·obtain⟨hgc,hal⟩:=hG1 ho;subst ho;obtain⟨on,rest,j,m,rfl,hdi,hpl,hfit⟩:=hgc;have hx0:(Ja (on::rest))[0]? = some (Jb on):=rfl;have hrl:(Ja (on::rest)).length=rest.length+1:=by rw[JV];rfl
   have htof:=Zp L.toLibW on;have hmx:=JSl hok hdi;simp only[Ad]at hal;generalize hto:Q4 on=ot at *;obtain⟨k1,n1,u1,e1,p1,a1⟩:=ot;simp only[nmT]at hdi;refine' JM;obtain⟨rw5,hR5,hd⟩:=TbU.disp L.toLibW (T1 (J++[.cells (KK [] [] Jea)])) n1 n (rw:=rwt);refine Je rfl rfl rfl ?_;refine Ks hd ?_;clear hd;rw[hdi];simp only[JcS,JfX,Bj];obtain⟨hmx1,hmx2⟩:=hmx;obtain⟨mn,mp,⟨k2,n2,u2,e2,p2,a2⟩,mb,mab,mat⟩:=m;simp only at hpl hfit hmx1 hmx2;have hpr:(mp.map Jf).length=mp.length:=Ak _;refine JQ ?_;refine' JM;refine JB hm (λmm e S'=>∃(k:Nat) (rw6:List Nat),S'=⟨hp H nt bt (J++[.cells (KK n (Zc cs j) ⟨mn,mp,.mk k2 n2 u2 e2 p2 a2,mb,mab,mat⟩)]),rw6⟩/\k<=mp.length/\Rx rw rw6/\mm=mp.length-k /\
    e=[(0,.ptr nt 0),(1,.list 5 .dead (Ja l)),(5,.int .i64 q),(6,.ptr (H.length+J.length) 0),(8,.int .i64 k)]) ?_ (m:=mp.length) ⟨0,_,rfl,O,hR.trans hR5,rfl,rfl⟩
   clear hR;rintro mm e S' ⟨k,rw6,rfl,hk0,hR,rfl,rfl⟩;by_cases hk:k<mp.length
   ·obtain⟨p,hp⟩:∃ p,mp[k]? = some p:=⟨_,Ab hk⟩
    obtain⟨y,hy⟩:∃ y,rest[k]? = some y:=⟨_,Ab O⟩
    obtain⟨hft,hyx⟩:=hfit k y p hy hp;have hpx:=hmx1 p (Aq hp);have hpr2:(mp.map Jf)[k]? = some (Jf p):=by rw[Ax,hp];rfl
    have hyr:(Ja (on::rest))[k+1]? = some (Jb y):=by rw[KB,Ax,BA,hy];rfl
    have hmc:∃ p0 mps,mp=p0::mps:=by
     cases mp with
     | nil=>cases hp
     | cons p0 mps=>exact⟨p0,mps,rfl⟩
    obtain⟨p0,mps,rfl⟩:=hmc;obtain⟨pn,⟨k3,n3,u3,e3,p3,a3⟩,pa⟩:=p;have htf:=Zp L.toLibW y;simp only at hft hpx;refine' JM;obtain⟨rw7,hR7,hd⟩:=TbU.fits L.toLibW (T1 (J++[.cells (KK n (Zc cs j) ⟨mn,p0::mps,.mk k2 n2 u2 e2 p2 a2,mb,mab,mat⟩)])) hyx hpx (rw:=rwt);rw[hft]at hd;refine Je rfl rfl rfl ?_;refine Ks hd ?_;clear hd;replace hR:=hR.trans hR7;refine JQ ?_;refine' JM;exact⟨(p0::mps).length-(k+1),O,k+1,_,rfl,O,hR,rfl,rfl⟩
   ·refine' JM;exact⟨l.length-(q+1),O,q+1,_,_,rfl,O,hR,rfl,Fc⟩
  ·refine' JM;exact⟨l.length-(q+1),O,q+1,_,_,rfl,O,hR,rfl,Fc⟩
 ·refine' JM;exact Js rfl rfl (JR hlt) ⟨_,hR,rfl,QP hbt⟩
mutual
theorem JDw(L:LibY pr F)(f79:QG pr F 79 i79){cs:List Cls}{U:List (List Nat)}(hok:ClsOk cs):∀ x:Xp,gdX cs U x->Jc6 pr F cs U (asX x)/\(opX x=[99,97,108,108]->Jgc cs U (nmX x) (asX x)/\(asX x).length<=64800000)
 | .mk op n l ty a,h=>by simp only[gdX]at h;have hm:=JmD L f79 hok l h.1;exact⟨Jla L f79 hok h.2.1 (λx hx=>(hm x hx).1) (λx hx=>(hm x hx).2),λho=>⟨h.2.2 ho,h.2.1⟩⟩
theorem JmD(L:LibY pr F)(f79:QG pr F 79 i79){cs:List Cls}{U:List (List Nat)}(hok:ClsOk cs):∀ l:List Xp,ZW cs U l->∀ x∈l,Jc6 pr F cs U (asX x)/\(opX x=[99,97,108,108]->Jgc cs U (nmX x) (asX x)/\(asX x).length<=64800000)
 | [],_,x,hx=>El
 | y::l,h,x,hx=>by
  simp only[ZW]at h;have h1:=JDw L f79 hok y h.1;have h2:=JmD L f79 hok l h.2;rcases AS.1 hx with rfl |hx
  ·exact h1
  ·exact h2 x hx
end
theorem Jtb(L:LibY pr F)(f79:QG pr F 79 i79){cs:List Cls}{U:List (List Nat)}(hok:ClsOk cs){l:List Xp}(h:ZW cs U l)(hl:l.length<=64800000):Jc6 pr F cs U l:=by have hm:=JmD L f79 hok l h;exact Jla L f79 hok hl (λx hx=>(hm x hx).1) (λx hx=>(hm x hx).2)
theorem Jep(L:LibY pr F)(f43:QG pr F 43 i43){cs:List Cls}{U:List (List Nat)}{l:List Sm}(hl:l.length<=64800000)(hA:∀ x∈l,Jc6 pr F cs U (JDt x)/\Zg pr F cs U (JDu x)/\Zg pr F cs U (JDv x)):Zg pr F cs U l:=by
 intro H rw nt T;have hm:=L.hm;suffices h:Wp pr F 43 [.ptr nt 0,Kp 7 (Jg l)] ⟨H,rw⟩ λr' S'=>∃ rw',Rx rw rw'/\r'=.ret (.bool true)/\S'=⟨H,rw'⟩ by obtain⟨r',S',hd,rw',h1,rfl,rfl⟩:=h.det hm;exact⟨rw',h1,hd⟩
 have hR:Rx rw rw:=Rx.rfl;obtain⟨bt,hbt⟩:=T.at;have hlt:=T.lt;have T1:=λM=>T.keep (X6 hbt M);have hel:(Jg l).length=l.length:=Jd5 l;refine Kw hm f43.1 f43.2 rfl (Xi hbt) ?_;refine' JM;refine JB hm (λmm e S'=>∃(q:Nat) (J:List Blk) (rw3:List Nat),S'=⟨hp H nt bt J,rw3⟩/\q<=l.length/\Rx rw rw3/\mm=l.length-q /\
   e=[(0,.ptr nt 0),(1,Kp 7 (Jg l)),(5,.int .i64 q)]) ?_ (m:=l.length) ⟨0,_,_,rfl,O,hR,rfl,rfl⟩
 clear hR;rintro mm e S' ⟨q,J,rw3,rfl,hq0,hR,rfl,rfl⟩;by_cases hq:q<l.length
 ·obtain⟨x,hx⟩:∃ x,l[q]? = some x:=⟨_,Ab hq⟩
  have hxr:(Jg l)[q]? = some (Jp x):=by rw[Qh,Ax,hx];rfl
  have hl7:Kp 7 (Jg l)=.list 7 .dead (Jg l):=Kf (i:=q) O;have hA1:=hA x (Aq hx);obtain⟨kind,n,ty,exs,b,e,a⟩:=x;obtain⟨hA1,hA2,hA3⟩:=hA1;simp only[JDt,JDu,JDv]at hA1 hA2 hA3;rw[hl7];refine' JM;obtain⟨rw4,hR4,hd⟩:=hA1 (hp H nt bt J) rw3 nt (T1 J);refine Je rfl rfl rfl ?_;refine Ks hd ?_;clear hd;replace hR:=hR.trans hR4;refine JQ ?_;refine' JM;obtain⟨rw5,hR5,hd⟩:=hA2 (hp H nt bt J) rw4 nt (T1 J);refine Je rfl rfl rfl ?_;refine Ks hd ?_;clear hd;replace hR:=hR.trans hR5;refine JQ ?_;refine' JM;obtain⟨rw6,hR6,hd⟩:=hA3 (hp H nt bt J) rw5 nt (T1 J);refine Je rfl rfl rfl ?_;refine Ks hd ?_;clear hd;replace hR:=hR.trans hR6;refine JQ ?_;refine' JM;exact⟨l.length-(q+1),O,q+1,_,_,rfl,O,hR,rfl,FI⟩
 ·refine' JM;exact Js rfl rfl (JR hlt) ⟨_,hR,rfl,QP hbt⟩
mutual
theorem Jws(L:LibY pr F)(f79:QG pr F 79 i79)(f43:QG pr F 43 i43){cs:List Cls}{U:List (List Nat)}(hok:ClsOk cs):∀ x:Sm,gdS cs U x->Jc6 pr F cs U (JDt x)/\Zg pr F cs U (JDu x)/\Zg pr F cs U (JDv x)
 | .mk kind n ty exs b e a,h=>by simp only[gdS]at h;exact⟨Jtb L f79 hok h.1.1 h.1.2,Jep L f43 h.2.1.2 (Jfs L f79 f43 hok b h.2.1.1),Jep L f43 h.2.2.2 (Jfs L f79 f43 hok e h.2.2.1)⟩
theorem Jfs(L:LibY pr F)(f79:QG pr F 79 i79)(f43:QG pr F 43 i43){cs:List Cls}{U:List (List Nat)}(hok:ClsOk cs):∀ l:List Sm,Z6 cs U l->∀ x∈l,Jc6 pr F cs U (JDt x)/\Zg pr F cs U (JDu x)/\Zg pr F cs U (JDv x)
 | [],_,x,hx=>El
 | y::l,h,x,hx=>by
  simp only[Z6]at h;have h1:=Jws L f79 f43 hok y h.1;have h2:=Jfs L f79 f43 hok l h.2;rcases AS.1 hx with rfl |hx
  ·exact h1
  ·exact h2 x hx
end
theorem Jeq(L:LibY pr F)(f79:QG pr F 79 i79)(f43:QG pr F 43 i43){cs:List Cls}{U:List (List Nat)}(hok:ClsOk cs){l:List Sm}(h:Z6 cs U l)(hl:l.length<=64800000):Zg pr F cs U l:=Jep L f43 hl (Jfs L f79 f43 hok l h)
structure LibZ9(pr:Jz)(F:Nat->Option IFn):Prop extends LibZ pr F where
 f9:QG pr F 9 i9
 f41:QG pr F 41 i41
 f43:QG pr F 43 i43
 f79:QG pr F 79 i79
theorem TbU.cx{H:List Blk}{n:Nat}{cs:List Cls}{U:List (List Nat)}(T:TbU H n cs U)(hall:Jq8 cs U):Cx cs U:=by obtain⟨mb,z,zb,tg,tb,o1,o2,o3,sl,h1,h2⟩:=T;exact⟨h1.unlike,h1.linked,h1.okc,h1.acyc,h1.ulen,h1.ups,hall⟩
theorem Jqe{cs:List Cls}{U:List (List Nat)}(X:Cx cs U){i k:Nat}{c d:Cls}(hc:cs[i]? = some c)(hd:cs[k]? = some d)(hb:Yi cs U c.name d.name=true){x:Jk×Jk×Mth}(hx:x∈V5 cs U d.name):(XL cs U c.name x.1).isSome=true:=by
 have hca:J6 cs c.name=some i:=X.un i c hc;have hda:J6 cs d.name=some k:=X.un k d hd;unfold Yi at hb;rw[hca,hda]at hb;simp only[Bp,decide_eq_true_eq]at hb;rcases hb with rfl |hb
 ·rw[hc]at hd;cases hd;obtain⟨j,hj,-⟩:=Jds.1 hx;rw[hj];rfl
 ·obtain⟨r,hr,-⟩:=Jv5 X hc hd ((X.mem hc).1 hb) hx;rw[hr];rfl
theorem TbU.below_(L:LibZ pr F){H:List Blk}{rw:List Nat}{n:Nat}{cs:List Cls}{U:List (List Nat)}(T:TbU H n cs U)(s t:Jk):∃ rw',Rx rw rw'/\Det pr F 35 [.ptr n 0,.str s,.str t] ⟨H,rw⟩ (.ret (.bool (Yi cs U s t))) ⟨H,rw'⟩:=by obtain⟨mb,z,zb,tg,tb,o1,o2,o3,sl,h1,h2⟩:=T;exact JkB L.toLibG h1 s t
theorem TbU.meths_(L:LibZ pr F){H:List Blk}{rw:List Nat}{n:Nat}{cs:List Cls}{U:List (List Nat)}(T:TbU H n cs U)(hfw:Few cs)(s:Jk):∃(v:AV) (rw':List Nat),IsL 13 v (Ko (V5 cs U s))/\Rx rw rw'/\Det pr F 37 [.ptr n 0,.str s] ⟨H,rw⟩ (.ret v) ⟨H,rw'⟩:=by obtain⟨mb,z,zb,tg,tb,o1,o2,o3,sl,h1,h2⟩:=T;exact Jg4 L.toLibN h1 hfw h2 s
theorem TbU.own2{H R X:List Blk}{bz A B A' B':Blk}{n m:Nat}{cs:List Cls}{U:List (List Nat)}(hlt:m<H.length)(T:TbU (hp H m bz (A::B::R)) n cs U)(hn:H.length+2<=n)(hA:∃ v,A=.cells v)(hB:∃ v,B=.cells v):TbU (hp H m bz (A'::B'::(R++X))) n cs U:=by
 refine T.off (lo:=H.length) (hi:=H.length+2) (λk c hk hr=>?_) hn λk h1 h2=>?_
 ·rcases hr with hr |hr
  ·have e:∀ M:List Blk,(hp H m bz M)[k]? =(hp H m bz [])[k]?:=λM=>by have h3:=JR (b:=bz) (L:=M) hlt;rw[<- h3,Bi hr]
   rw[e]at hk |-;exact hk
  ·obtain⟨j,rfl⟩:∃ j,k=H.length+(j+2):=⟨k-H.length-2,O⟩
   rw[Vq hlt]at hk |-;exact Vj (J:=R) hk
 ·obtain⟨j,rfl⟩:∃ j,k=H.length+j:=⟨k-H.length,O⟩
  rw[Vq hlt];obtain⟨va,rfl⟩:=hA;obtain⟨vb,rfl⟩:=hB;rcases j with _ |_ |j
  ·exact⟨_,rfl⟩
  ·exact⟨_,rfl⟩
  ·omega
theorem J09(L:LibZ9 pr F)(haw:∀ S,Det pr F 40 [] S (.ret (.bool true)) S)(x:Jk)(H:List Blk)(rw:List Nat):Wp pr F 9 [.str x] ⟨H,rw⟩ JkQ:=by
 have hm:=L.hm;have haw:=haw ⟨H,rw⟩;refine Jt hm L.f9.1 L.f9.2 rfl ?_;refine' VO;unfold JV0;show At pr F H.length (fin _ H.length _) _ _ _ _;refine Ku hm ?_;intro H1 hH1 hlen hlt;refine' JM;obtain⟨o,hg,hd⟩:=JiG L.toLibS L.f41 (hp H1 H.length (.cells [.list 0 .full [],.list 0 .full []]) []) rw x;obtain⟨p,ok,rw2⟩:=o;obtain⟨hR,hgood⟩:=hg;simp only at hR hgood hd;refine Je rfl rfl rfl ?_;refine Ks hd ?_;clear hd;refine JQ ?_;refine' JM;refine Kj (q:=H.length) rfl rfl (Kh hlt) ?_;refine' JM
 ·exact JcZ rfl
 have hok:ok=true:=EN
 obtain⟨hp1,hp2,hp3⟩:=hgood hok;have hCQ:=JjG L.toLibZ hp1 hp3 O (hp H1 H.length (.cells (JU p)) [.cells [.list 0 .full [],.list 0 .full []],.cells [.int .i64 0,.int .i64 0]]) rw2 Ef;obtain⟨r,S',hd,hN⟩:=hCQ.det hm;have bad:∀(c:Int×Int) (rw3:List Nat),c.1≠0->Det pr F 42 [.agg (JU p)] ⟨hp H1 H.length (.cells (JU p)) [.cells [.list 0 .full [],.list 0 .full []],.cells [.int .i64 0,.int .i64 0]],rw2⟩ (ckR .nilp Js9 c) ⟨hp H1 H.length (.cells (JU p)) [.cells [.list 0 .full [],.list 0 .full []],.cells [.int .i64 0,.int .i64 0]],rw3⟩->True:=λ_ _ _ _=>trivial;rcases hN with⟨rw3,hne,hR3,rfl,rfl⟩ |⟨hne,hfw,⟨c,rw3,hc,hR3,rfl,rfl⟩ |⟨q,H',rw3,n,hpq,hK,hn,hR3,T,hfw2,hall,rfl,rfl⟩⟩
 ·generalize JbV p.classes (QD p.classes)=f at *;obtain⟨fc,fa⟩:=f;simp only at hne;refine Je rfl rfl rfl ?_;refine Ks hd ?_;clear hd;refine JQ ?_;refine' JM;exact JcZ rfl
 ·have hne:=Jwr _ _ p c hc;obtain⟨fc,fa⟩:=c;replace hne:fc≠0:=hne;refine Je rfl rfl rfl ?_;refine Ks hd ?_;clear hd;refine JQ ?_;refine' JM;exact JcZ rfl
 ·obtain⟨R,hHR⟩:=Jb7 hK;rw[Jau hlt]at hHR;simp only[Aw,Au]at hHR;subst hHR;have hn2:H1.length+2<=n:=by rw[XO]at hn;simp only[Ad,Af]at hn;omega
  refine Je rfl rfl rfl ?_;refine Ks hd ?_;clear hd;obtain⟨cs,mn⟩:=q;simp only[];refine JQ ?_;refine' JM;obtain⟨hhd,hwk,hwl⟩:=Jwe hpq;simp only at hhd hwk hwl T hfw2 hall;have hvp:wL V1 p.classes<=64800000:=by have:=Jul p.classes;omega
  have hcok:ClsOk cs:=⟨hwk (JiK hp1),by rw[hwl];exact hvp⟩
  obtain⟨⟨hg1,hg2⟩,hg3⟩:=JSd ⟨hfw,⟨JiK hp1,hvp⟩⟩ hp1 hp3 hpq;have hmain:Zg pr F cs (QD p.classes) mn:=Jeq L.toLibY L.f79 L.f43 hcok (Jdw hhd mn hg1) hg2;have hmeth:∀ c∈cs,∀ m∈c.meths,Zg pr F cs (QD p.classes) m.body:=λc hc m hm=>Jeq L.toLibY L.f79 L.f43 hcok (Jdw hhd _ ((hg3 c hc).1 m hm).1) ((hg3 c hc).1 m hm).2;have hctor:∀ c∈cs,∀ k∈c.ctors,Zg pr F cs (QD p.classes) k.body:=λc hc k hk=>Jeq L.toLibY L.f79 L.f43 hcok (Jdw hhd _ ((hg3 c hc).2 k hk).1) ((hg3 c hc).2 k hk).2;have hcl:cs.length<=30:=by rw[hhd.len];exact hp2
  have hbig:∀ c∈cs,c.ctors.length<=64800000/\c.meths.length<=64800000:=by obtain⟨mb,z,zb,tg,tb,o1,o2,o3,sl,h1,h2⟩:=T;exact h1.big
  have X:=T.cx hall;have hlm:(cs.map Jc).length=cs.length:=Ak _;obtain⟨z,tg,hz,hz2,hz3⟩:=YM (sz:=9) (rows:=cs.map Jc);have hpz:JU ⟨cs,mn⟩=[.list z tg (cs.map Jc),Kp 7 (Jg mn)]:=by rw[JU,hz]
  rw[hpz];have T0:=T.own2 (A':=.cells [.list z tg (cs.map Jc),Kp 7 (Jg mn)]) (B':=.cells (KF 0 0)) (X:=[]) hlt hn2 ⟨_,rfl⟩ ⟨_,rfl⟩;rw[Ar]at T0;clear T hg1 hg2 hg3 hR hR3 hgood hCQ bad hK hn;generalize QD p.classes=U at *;refine JB hm (λmm e S'=>∃(i:Nat) (J:List Blk) (rw4:List Nat),S'=⟨(hp H1 H.length (.cells (JU p)) (.cells [.list z tg (cs.map Jc),Kp 7 (Jg mn)]::.cells (KF 0 0)::J)),rw4⟩/\TbU (hp H1 H.length (.cells (JU p)) (.cells [.list z tg (cs.map Jc),Kp 7 (Jg mn)]::.cells (KF 0 0)::J)) n cs U/\i<=cs.length/\mm=cs.length-i /\
   e=[(5,.ptr n 0),(6,.ptr (H1.length+0) 0),(8,.int .i64 i)]) ?_ (m:=cs.length) ⟨0,R,_,rfl,T0,O,rfl,rfl⟩
  clear T0;rintro mm e S' ⟨i,J,rw4,rfl,T,hi0,rfl,rfl⟩;have hR:Rx rw4 rw4:=Rx.rfl;by_cases hi:i<cs.length
  ·obtain⟨c,hc⟩:∃ c,cs[i]? = some c:=⟨_,Ab hi⟩
   have hcr:(cs.map Jc)[i]? = some (Jc c):=EF
   have hcm:=Aq hc;have hmc:=hmeth c hcm;have hkc:=hctor c hcm;obtain⟨hb1,hb2⟩:=hbig c hcm;obtain rfl:z=9:=hz2 (λh=>by rw[h]at hlm;simp at hlm;omega);have hcn:∀(d:Cls) (k:Nat),cs[k]? = some d->Yi cs U c.name d.name=true->∀ x∈V5 cs U d.name,(XL cs U c.name x.1).isSome=true:=λd k hd hb x hx=>Jqe X hc hd hb hx;obtain⟨cn,cif,csu,cab,cfs,cvs,ct,cms,cat⟩:=c;simp only at hmc hkc hb1 hb2 hcn;have hml:(cms.map Jm).length=cms.length:=Ak _;have hkl:(ct.map Jw).length=ct.length:=Ak _;refine' JM;refine JB hm (λmm e S'=>∃(k:Nat) (rw5:List Nat),S'=⟨(hp H1 H.length (.cells (JU p)) (.cells [.list 9 tg (cs.map Jc),Kp 7 (Jg mn)]::.cells (KF 0 0)::J)),rw5⟩/\k<=cms.length/\mm=cms.length-k /\
    e=[(5,.ptr n 0),(6,.ptr (H1.length+0) 0),(8,.int .i64 i),(9,.int .i64 k)]) ?_ (m:=cms.length) ⟨0,_,rfl,O,rfl,rfl⟩
   rintro mm e S' ⟨k,rw5,rfl,hk0,rfl,rfl⟩;have hR:Rx rw5 rw5:=Rx.rfl;by_cases hk:k<cms.length
   ·obtain⟨m,hm2⟩:∃ m,cms[k]? = some m:=⟨_,Ab hk⟩
    have hmr:(cms.map Jm)[k]? = some (Jm m):=by rw[Ax,hm2];rfl
    have hmC:=hmc m (Aq hm2);have hne:∃ m0 ms,cms=m0::ms:=by
     cases cms with
     | nil=>cases hm2
     | cons m0 ms=>exact⟨m0,ms,rfl⟩
    obtain⟨m0,ms,rfl⟩:=hne;obtain⟨mn2,mp,⟨k1,n1,u1,e1,p1,a1⟩,mb,mab,mat⟩:=m;refine' JM;obtain⟨rw6,-,hd⟩:=hmC _ rw5 n T;refine Je rfl rfl rfl ?_;refine Ks hd ?_;clear hd;refine JQ ?_;refine' JM;exact⟨(m0::ms).length-(k+1),O,k+1,_,rfl,O,rfl,rfl⟩
   ·refine' JM;clear hk hk0;refine JB hm (λmm e S'=>∃(k:Nat) (rw5:List Nat),S'=⟨(hp H1 H.length (.cells (JU p)) (.cells [.list 9 tg (cs.map Jc),Kp 7 (Jg mn)]::.cells (KF 0 0)::J)),rw5⟩/\k<=ct.length/\mm=ct.length-k /\
     e=[(5,.ptr n 0),(6,.ptr (H1.length+0) 0),(8,.int .i64 i),(10,.int .i64 k)]) ?_ (m:=ct.length) ⟨0,_,rfl,O,rfl,rfl⟩
    rintro mm e S' ⟨k,rw6,rfl,hk0,rfl,rfl⟩;have hR:Rx rw6 rw6:=Rx.rfl;by_cases hk:k<ct.length
    ·obtain⟨m,hm2⟩:∃ m,ct[k]? = some m:=⟨_,Ab hk⟩
     have hmr:(ct.map Jw)[k]? = some (Jw m):=by rw[Ax,hm2];rfl
     have hmC:=hkc m (Aq hm2);have hne:∃ m0 ms,ct=m0::ms:=by
      cases ct with
      | nil=>cases hm2
      | cons m0 ms=>exact⟨m0,ms,rfl⟩
     obtain⟨m0,ms,rfl⟩:=hne;obtain⟨kp,khs,ksu,kbd,kat⟩:=m;refine' JM;obtain⟨rw7,-,hd⟩:=hmC _ rw6 n T;refine Je rfl rfl rfl ?_;refine Ks hd ?_;clear hd;refine JQ ?_;refine' JM;exact⟨(m0::ms).length-(k+1),O,k+1,_,rfl,O,rfl,rfl⟩
    ·refine' JM;clear hk hk0;refine JB hm (λmm e S'=>∃(k:Nat) (J:List Blk) (rw5:List Nat),S'=⟨(hp H1 H.length (.cells (JU p)) (.cells [.list 9 tg (cs.map Jc),Kp 7 (Jg mn)]::.cells (KF 0 0)::J)),rw5⟩/\TbU (hp H1 H.length (.cells (JU p)) (.cells [.list 9 tg (cs.map Jc),Kp 7 (Jg mn)]::.cells (KF 0 0)::J)) n cs U/\k<=cs.length/\mm=cs.length-k /\
      e=[(5,.ptr n 0),(6,.ptr (H1.length+0) 0),(8,.int .i64 i),(11,.int .i64 k)]) ?_ (m:=cs.length) ⟨0,J,_,rfl,T,O,rfl,rfl⟩
     clear T;rintro mm e S' ⟨k,J,rw7,rfl,T,hk0,rfl,rfl⟩;have hR:Rx rw7 rw7:=Rx.rfl;by_cases hk:k<cs.length
     ·obtain⟨d,hdk⟩:∃ d,cs[k]? = some d:=⟨_,Ab hk⟩
      have hdr:(cs.map Jc)[k]? = some (Jc d):=by rw[Ax,hdk];rfl
      have hcd:=hcn d k hdk;obtain⟨dn,dif,dsu,dab,dfs,dvs,dt,dms,dat⟩:=d;simp only at hcd;refine' JM;obtain⟨v,rw8,hv,-,hd⟩:=TbU.meths_ L.toLibZ T hfw2 dn (rw:=rw7);obtain⟨z13,t13,rfl,hz13,-⟩:=hv.ex;refine Je rfl rfl rfl ?_;refine Ks hd ?_;clear hd;have hrl:(Ko (V5 cs U dn)).length=(V5 cs U dn).length:=Ak _;have hrb:=Jf3 hfw2 X.up dn;generalize V5 cs U dn=msl at *;refine JQ ?_;refine' JM;refine JB hm (λmm e S'=>∃(w:Nat) (J:List Blk) (rw5:List Nat),S'=⟨(hp H1 H.length (.cells (JU p)) (.cells [.list 9 tg (cs.map Jc),Kp 7 (Jg mn)]::.cells (KF 0 0)::J)),rw5⟩/\TbU (hp H1 H.length (.cells (JU p)) (.cells [.list 9 tg (cs.map Jc),Kp 7 (Jg mn)]::.cells (KF 0 0)::J)) n cs U/\w<=msl.length/\mm=msl.length-w /\
       e=[(5,.ptr n 0),(6,.ptr (H1.length+0) 0),(8,.int .i64 i),(11,.int .i64 k),(12,.str cn),(13,.str dn),(14,.list z13 t13 (Ko msl)),(15,.int .i64 w)]) ?_ (m:=msl.length) ⟨0,J,_,rfl,T,O,rfl,rfl⟩
      clear T;rintro mm e S' ⟨w,J,rw9,rfl,T,hw0,rfl,rfl⟩;have hR:Rx rw9 rw9:=Rx.rfl;obtain⟨rw10,-,hd⟩:=TbU.below_ L.toLibZ T cn dn (rw:=rw9);by_cases hw:w<msl.length
      ·obtain⟨xm,hxm⟩:∃ xm,msl[w]? = some xm:=⟨_,Ab hw⟩
       have hxr:(Ko msl)[w]? = some (KK xm.1 xm.2.1 xm.2.2):=by rw[Ko,Ax,hxm];rfl
       have hxi:=Aq hxm;obtain rfl:z13=13:=hz13 (λh=>by rw[h]at hrl;simp at hrl;omega);obtain⟨sg,ow,m⟩:=xm;simp only at hxr;cases hb:Yi cs U cn dn with
       | false=>rw[hb]at hd;refine' JM;exact⟨cs.length-(k+1),O,k+1,J,_,rfl,T,O,rfl,rfl⟩
       | true=>
        rw[hb]at hd;have hds:=hcd hb _ hxi;simp only at hds;refine' JM;obtain⟨rw11,-,hd2⟩:=TbU.disp L.toLibW (T.keep (JoI hlt (X:=[.cells (KK [] [] Jea)]))) cn sg (rw:=rw10);cases hdf:XL cs U cn sg with
        | none=>rw[hdf]at hds;cases hds
        | some jm=>obtain⟨j,m2⟩:=jm;rw[hdf]at hd2;simp only[JcS,JfX,Bj]at hd2;have hrm:=Xu sg (Zc cs j) m2;refine Je rfl rfl rfl ?_;refine Ks hd2 ?_;clear hd hd2;refine JQ ?_;refine' JM;exact⟨msl.length-(w+1),O,w+1,_,_,rfl,T.keep (JoI hlt (X:=[.cells (KK sg (Zc cs j) m2)])),O,rfl,rfl⟩
      ·refine' JM;exact⟨cs.length-(k+1),O,k+1,J,_,rfl,T,O,rfl,rfl⟩
     ·refine' JM;exact⟨cs.length-(i+1),O,i+1,J,_,rfl,T,O,rfl,rfl⟩
  ·refine' JM;obtain⟨rw6,-,hd⟩:=hmain _ rw4 n T;refine Je rfl rfl rfl ?_;refine Ks hd ?_;clear hd;refine JQ ?_;refine' JM;exact JcZ rfl
def Jj4:{l:List IC // Tr.fn Tr.TT Tryz.f40 0 [[],[1,2],[1,13],[0],[3,4,5],[5,55],[0],[5,6],[5],[0]]=l}:=⟨_,AO⟩
def J1a:IC:=pk Jj4.1 0
def JEy:IC:=pk Jj4.1 1
def J1b:IC:=pk Jj4.1 2
def J1c:IC:=pk Jj4.1 3
def J1d:IC:=pk Jj4.1 4
def J1e:IC:=pk Jj4.1 5
def J1f:IC:=pk Jj4.1 6
def J1g:IC:=pk Jj4.1 7
def J1h:IC:=pk Jj4.1 8
def J1i:IC:=pk Jj4.1 9
def i40:IFn:=⟨0,(.seq J1a (.seq JEy (.seq (.seq J1b (.cond (.tmp 13) (.seq J1c .ret) (.skip))) (.seq J1d (.seq (.seq J1e (.cond (.tmp 55) (.seq J1f .ret) (.skip))) (.seq J1g (.seq J1h (.seq J1i .ret)))))))),[.tmp 0]⟩
theorem c40:JK Tryz.prog Tryz.f40 i40=true:=Ae
def txA:Jk:=[99,108,97,115,115,32,66,32,123,32,125,32,99,108,97,115,115,32,67,32,101,120,116,101,110,100,115,32,66,32,123,32,125,32,99,108,97,115,115,32,65,32,123,32,100,101,102,32,102,40,120,58,32,66,41,58,32,105,110,116,32,123,32,114,101,116,117,114,110,32,49,59,32,125,32,100,101,102,32,102,40,120,58,32,67,41,58,32,105,110,116,32,123,32,114,101,116,117,114,110,32,50,59,32,125,32,125,32,109,97,105,110,32,123,32,112,114,105,110,116,32,110,101,119,32,65,40,41,46,102,40,110,101,119,32,67,40,41,41,59,32,125]
def txB:Jk:=[109,97,105,110,32,123,32,112,114,105,110,116,32,116,114,117,101,59,32,125]
def JoJ(pr:Jz)(F:Nat->Option IFn)(x:Jk)(p:Prg):Prop:=∀(H:List Blk) (rw:List Nat),∃ rw',Rx rw rw'/\Det pr F 41 [.str x] ⟨H,rw⟩ (.ret (.tup [.agg (JU p),.bool true])) ⟨H,rw'⟩
theorem JDx(L:LibZ pr F)(f40:QG pr F 40 i40){p p2:Prg}(hA:JoJ pr F txA p)(hB:JoJ pr F txB p2)(hp0:JdG p)(hw:wL Xx p.classes+Qj p.main<=64800000)(hl:p.classes.length<=8000)(hp02:JdG p2)(hw2:wL Xx p2.classes+Qj p2.main<=64800000)(hl2:p2.classes.length<=8000)
  (hn:JbV p.classes (QD p.classes)=(0,0)) {qc:List Cls} {k n:Jk} {ty:List Ty} {op:Jk} {as_:List Xp} {t:Ty} {ts:List Ty} {a a2:Int} {b e:List Sm} (hq:JcX p.classes (QD p.classes) p=.ok ⟨qc,[.mk k n ty [.mk op [102,40,67,41] as_ (t::ts) a2] b e a]⟩) (ht:V6 (Q4 (.mk op [102,40,67,41] as_ (t::ts) a2))=1)
  (hn2:JbV p2.classes (QD p2.classes)=(0,0)) (hq2:JcX p2.classes (QD p2.classes) p2=.error (131,13)) (H:List Blk) (rw:List Nat):Wp pr F 40 [] ⟨H,rw⟩ JkQ:=by
 have hm:=L.hm;refine Jt hm f40.1 f40.2 rfl ?_;refine' VO;unfold JEy;show At pr F H.length (fin _ H.length _) _ _ _ _;refine Ku hm ?_;intro H1 hH1 hlen hlt;refine' JM;obtain⟨rw2,hR,hd⟩:=hA (hp H1 H.length (.cells [.list 0 .full [],.list 0 .full []]) []) rw;refine Je rfl rfl rfl ?_;refine Ks hd ?_;clear hd;refine JQ ?_;refine' JM;refine Kj (q:=H.length) rfl rfl (Kh hlt) ?_;refine' JM;obtain⟨r,S',hd,hN⟩:=(JjG L hp0 hw hl (hp H1 H.length (.cells (JU p)) [.cells [.list 0 .full [],.list 0 .full []],.cells [.int .i64 0,.int .i64 0]]) rw2 Ef).det hm;rcases hN with⟨rw3,hne,-,-,-⟩ |⟨-,-,⟨c,rw3,hc,-,-,-⟩ |⟨q,H',rw3,m,hpq,hK,hmn,hR3,-,-,-,rfl,rfl⟩⟩
 ·rw[hn]at hne;exact absurd rfl hne
 ·rw[hq]at hc;cases hc
 rw[hq]at hpq;simp only[Dh]at hpq;subst hpq;obtain⟨R,hHR⟩:=Jb7 hK;rw[Jau hlt]at hHR;simp only[Aw,Au]at hHR;subst hHR;refine Je rfl rfl rfl ?_;refine Ks hd ?_;clear hd;replace hR:=hR.trans hR3;simp only[];have htf:=Zp L.toLibW (.mk op [102,40,67,41] as_ (t::ts) a2);have hx0:(Ja [.mk op [102,40,67,41] as_ (t::ts) a2])[0]? = some (Jb (.mk op [102,40,67,41] as_ (t::ts) a2)):=rfl;have hs0:(Jg [.mk k n ty [.mk op [102,40,67,41] as_ (t::ts) a2] b e a])[0]? = some (Jp (.mk k n ty [.mk op [102,40,67,41] as_ (t::ts) a2] b e a)):=rfl;generalize hto:Q4 (.mk op [102,40,67,41] as_ (t::ts) a2)=ot at *;obtain⟨k1,n1,u1,e1,p1,a1⟩:=ot;replace ht:k1=1:=ht;subst ht;refine JQ ?_;refine' JM
 ·exact absurd rfl hq
 obtain⟨rw4,hR4,hd⟩:=hB (hp H1 H.length (.cells (JU p)) (.cells (JU ⟨qc,[.mk k n ty [.mk op [102,40,67,41] as_ (t::ts) a2] b e a]⟩)::.cells (KF 0 0)::(R++[.cells [.list 0 .full [],.list 0 .full []]]))) rwt;refine Je rfl rfl rfl ?_;refine Ks hd ?_;clear hd;refine JQ ?_;refine' JM;obtain⟨r,S',hd,hN⟩:=(JjG L hp02 hw2 hl2 (hp H1 H.length (.cells (JU p)) (.cells (JU ⟨qc,[.mk k n ty [.mk op [102,40,67,41] as_ (t::ts) a2] b e a]⟩)::.cells (KF 0 0)::(R++[.cells (JU p2)]))) rw4 Ef).det hm;rcases hN with⟨rw5,hne,-,-,-⟩ |⟨-,-,⟨c,rw5,hc,hR5,rfl,rfl⟩ |⟨q,H',rw5,m2,hpq,-⟩⟩
 ·rw[hn2]at hne;exact absurd rfl hne
 ·rw[hq2]at hc;simp only[Except.error.injEq]at hc;subst hc;refine Je rfl rfl rfl ?_;refine Ks hd ?_;clear hd;simp only[];refine JQ ?_;refine' JM;exact JcZ rfl
 ·rw[hq2]at hpq;cases hpq
def mtA(c:Jk)(k:Jk)(a b d e f g:Int):Mth:=⟨[102],[⟨[120],.mk 3 c false [] [] b,a⟩],.mk 1 [] false [] [] d,[.mk [114,101,116,117,114,110] [] [] [.mk [110,117,109] k [] [] f] [] [] e],false,g⟩
def csA:List Cls:=[⟨[66],false,[],[],[],[],[],[],6⟩,⟨[67],false,[66],[],[],[],[],[],18⟩,⟨[65],false,[],[],[],[],[],[mtA [66] [49] 50 53 57 63 70 48,mtA [67] [50] 81 84 88 94 101 79],40⟩]
def pgA:Prg:=⟨csA,[.mk [112,114,105,110,116] [] [] [.mk [99,97,108,108] [102] [.mk [110,101,119] [65] [] [] 121,.mk [110,101,119] [67] [] [] 131] [] 129] [] [] 115]⟩
def pgB:Prg:=⟨[],[.mk [112,114,105,110,116] [] [] [.mk [116,114,117,101] [] [] [] 13] [] [] 7]⟩
theorem F1{Q:Prop}(h:Q:=by change k∈([]:List Nat)at h;cases h):Q:=h
theorem J1j:∀ i k,k∈nxt csA i->i=1/\k=0
 | 0,k,h=>F1
 | 1,k,h=>by change k∈[0]at h;exact⟨rfl,AN.1 h⟩
 | 2,k,h=>F1
 | i+3,k,h=>F1
theorem upA{i k:Nat}:Up csA i k↔i=1/\k=0:=by
 constructor
 ·intro h;induction h with
  | one h=>exact J1j _ _ h
  | more h hk ih=>exact⟨ih.1,(J1j _ _ hk).2⟩
 ·rintro⟨rfl,rfl⟩;exact .one (by show 0∈[0];simp)
theorem J1k:QD csA=[[],[0],[]]:=by
 refine(JlY rfl ?_).symm;intro i l h;refine⟨(List.range 3).map λk=>decide (i=1/\k=0),rfl,λk=>?_,?_⟩
 ·rw[upA,Ax];by_cases hk:k<3
  ·rw[Dr hk];simp
  ·rw[A5 AR];simp;omega
 ·match i,h with
  | 0,h=>cases h;rfl
  | 1,h=>cases h;rfl
  | 2,h=>cases h;rfl
theorem J4D:Jhf csA=(0,0):=by
 have h:∀ i c,Jpz csA i c=(0,0):=λi c=>by unfold Jpz;rw[if_neg];rw[upA];omega
 simp only[Jhf,csA,JY]at h |-;simp[h,Xa]
theorem J4E:JbV pgA.classes (QD pgA.classes)=(0,0):=by show JbV csA (QD csA)=_;rw[J1k];unfold JbV;rw[J4D];kernel_rfl
def ckE:Er Prg->Bool
 | .ok ⟨_,[.mk _ _ _ [.mk o n l (t::ts) a] _ _ _]⟩=>n == [102,40,67,41] && V6 (Q4 (.mk o n l (t::ts) a)) == 1
 | _=>false
theorem J4F:ckE (JcX pgA.classes [[],[0],[]] pgA)=true:=Ae
theorem J1l:QD pgB.classes=[]:=rfl
theorem J4G:JbV pgB.classes (QD pgB.classes)=(0,0):=by rw[J1l];unfold JbV;rw[show Jhf pgB.classes=(0,0) from rfl];kernel_rfl
theorem J4H:JcX pgB.classes [] pgB=.error (131,13):=Ae
theorem nm1{c:UInt8}(h:K8 c.toNat=1):Nm [c]:=⟨Ag,Ag,λd hd=>by cases hd;exact h,λd hd=>by rw[AN.1 hd];exact .inl h⟩
theorem J1m{k:Jk}{e f:Int}(h:∀ c,k[0]? = some c->K8 c.toNat=2):Vf [.mk [114,101,116,117,114,110] [] [] [.mk [110,117,109] k [] [] f] [] [] e]:=by simp only[Vf,Ja0,XW,QU,X4,and_true,true_and];refine⟨.inr (.inr (.inr (.inr (.inr (.inr (.inl ⟨rfl,rfl,rfl,Ao 1,rfl,rfl⟩)))))),.inl ⟨rfl,rfl,rfl,h⟩⟩
theorem JEz{c:UInt8}{k:Jk}{a b d e f g:Int}(hc:K8 c.toNat=1)(hk:∀ c,k[0]? = some c->K8 c.toNat=2):Jnd (mtA [c] k a b d e f g):=by
 refine⟨nm1 Aj,λx hx=>?_,.inl ?_,J1m hk,λh=>EB⟩
 ·rw[AN.1 hx];refine⟨nm1 Aj,?_⟩;exact⟨.inr (.inr (.inl ⟨rfl,rfl,nm1 hc⟩)),Dk _,trivial,trivial⟩
 ·exact⟨.inl ⟨rfl,rfl,rfl,rfl⟩,Dk _,trivial,trivial⟩
theorem okA:JdG pgA:=by
 refine⟨λc hc=>?_,?_⟩
 ·simp only[pgA,csA,AS,CH,or_false]at hc;rcases hc with rfl |rfl |rfl
  ·exact⟨nm1 Aj,.inl rfl,λx hx=>El,λx hx=>El,trivial,λx hx=>El,λx hx=>El⟩
  ·exact⟨nm1 Aj,.inr ⟨nm1 Aj,rfl⟩,λx hx=>El,λx hx=>El,trivial,λx hx=>El,λx hx=>El⟩
  ·refine⟨nm1 Aj,.inl rfl,λx hx=>El,λx hx=>El,trivial,λx hx=>El,λx hx=>?_⟩;simp only[AS,CH,or_false]at hx;rcases hx with rfl |rfl
   ·exact JEz Aj (λc h=>by cases h;decide)
   ·exact JEz Aj (λc h=>by cases h;decide)
 ·simp only[pgA,Vf,Ja0,XW,QU,X4,and_true,true_and];refine⟨.inr (.inr (.inr (.inr (.inr (.inr (.inr ⟨.inr (.inl rfl),rfl,rfl,⟨_,rfl⟩,rfl,rfl⟩)))))),.inr (.inr (.inr (.inr (.inr (.inr (.inr (.inl ⟨rfl,⟨_,_,rfl⟩,rfl,nm1 Aj⟩))))))),.inr (.inr (.inr (.inr (.inl ⟨rfl,rfl,nm1 Aj⟩)))),.inr (.inr (.inr (.inr (.inl ⟨rfl,rfl,nm1 Aj⟩))))⟩
theorem okB:JdG pgB:=by refine⟨λc hc=>(by cases hc),?_⟩;simp only[pgB,Vf,Ja0,XW,QU,X4,and_true,true_and];exact⟨.inr (.inr (.inr (.inr (.inr (.inr (.inr ⟨.inr (.inl rfl),rfl,rfl,⟨_,rfl⟩,rfl,rfl⟩)))))),.inr (.inr (.inl ⟨.inl rfl,rfl,rfl,rfl⟩))⟩
theorem wtA:wL Xx pgA.classes+Qj pgA.main<=64800000:=Aj
theorem wtB:wL Xx pgB.classes+Qj pgB.main<=64800000:=Aj
variable {pr:Jz} {F:Nat->Option IFn}
theorem J4I(L:LibZ pr F)(f40:QG pr F 40 i40)(hA:JoJ pr F txA pgA)(hB:JoJ pr F txB pgB)(H:List Blk)(rw:List Nat):Wp pr F 40 [] ⟨H,rw⟩ JkQ:=by
 have h:=J4F;have hu:QD pgA.classes=[[],[0],[]]:=J1k;unfold ckE at h;split at h
 ·rename_i o l t ts a heq;simp only[Ah,beq_iff_eq]at h;obtain⟨rfl,h2⟩:=h;exact JDx L f40 hA hB okA wtA Aj okB wtB Aj J4E (by rw[hu];exact heq) h2 J4G (by rw[J1l];exact J4H) H rw
 ·cases h
def FR:Nat->Option IFn:=λn=>match n with
 | 89=>some i89
 | 90=>some i90
 | 93=>some i93
 | 95=>some i95
 | 130=>some JwW
 | 131=>some JwX
 | 132=>some JwY
 | 133=>some JwZ
 | 134=>some Jw0
 | 135=>some Jw1
 | 136=>some Jw2
 | 137=>some Jw3
 | 140=>some Jw4
 | 190=>some Jw5
 | 191=>some Jw6
 | 226=>some Jw7
 | 243=>some Jw8
 | 192=>some Jxc
 | 193=>some Jxd
 | 195=>some Jxe
 | 201=>some Jxs
 | 227=>some Jxt
 | 228=>some Jxu
 | 244=>some JxL
 | 245=>some JxM
 | 253=>some Jyh
 | 94=>some i94
 | 141=>some JyI
 | 196=>some JyN
 | 197=>some JyT
 | 194=>some JyZ
 | 139=>some Jy1
 | 138=>some Jzj
 | 91=>some i91
 | 92=>some i92
 | 51=>some i51
 | 41=>some i41
 | _=>none
def PrN:Jz:=λ_=>none
theorem JaJ:Yy PrN:=λf p h=>EB
structure Kn where
 f:Nat
 vs:List AV
 S:St
 r:Res
 T:St
def Jtd:List (Jk×AV)->List (Jk×AV)->Bool
 | [],[]=>true
 |(a,x)::l,(b,y)::m=>a == b && (AV.beq x y && Jtd l m)
 | _,_=>false
def JSo:Blk->Blk->Bool
 | .cells a,.cells b=>AV.beqL a b
 | .map a,.map b=>Jtd a b
 | _,_=>false
def Jte:List Blk->List Blk->Bool
 | [],[]=>true
 | a::l,b::m=>JSo a b && Jte l m
 | _,_=>false
def JDy(S T:St):Bool:=Jte S.heap T.heap && S.rows == T.rows
def JSp:Res->Res->Bool
 | .ret a,.ret b=>AV.beq a b
 | .panic a,.panic b=>AV.beq a b
 | _,_=>false
theorem JrY:∀{a b:List (Jk×AV)},Jtd a b=true->a=b
 | [],[],_=>rfl
 |(a,x)::l,(b,y)::m,h=>by simp only[Jtd,Ah,beq_iff_eq]at h;rw[h.1,Jaj _ _ h.2.1,JrY h.2.2]
 | [],_::_,h=>by simp[Jtd]at h
 | _::_,[],h=>by simp[Jtd]at h
theorem JDz{a b:Blk}(h:JSo a b=true):a=b:=by
 cases a <;> cases b <;> simp only[JSo,AT]at h
 ·rw[Xm _ _ h]
 ·rw[JrY h]
theorem JrZ:∀{a b:List Blk},Jte a b=true->a=b
 | [],[],_=>rfl
 | a::l,b::m,h=>by simp only[Jte,Ah]at h;rw[JDz h.1,JrZ h.2]
 | [],_::_,h=>by simp[Jte]at h
 | _::_,[],h=>by simp[Jte]at h
theorem Jr0{S T:St}(h:JDy S T=true):S=T:=by simp only[JDy,Ah,beq_iff_eq]at h;cases S;cases T;simp only at h;rw[JrZ h.1,h.2]
theorem JDA{a b:Res}(h:JSp a b=true):a=b:=by
 cases a <;> cases b <;> simp only[JSp,AT]at h
 ·rw[Jaj _ _ h]
 ·rw[Jaj _ _ h]
def Jwt(f:Nat)(vs:List AV)(S:St):List Kn->Option (Res×St)
 | []=>none
 | k::ks=>if(k.f == f && (AV.beqL k.vs vs && JDy k.S S))=true then some (k.r,k.T)else Jwt f vs S ks
def Jae(k:Kn):Prop:=∃ n,QF PrN FR n k.f k.vs k.S=some (k.r,k.T)
theorem Jlb{f:Nat}{vs:List AV}{S:St}:∀{ks:List Kn} {x:Res×St},Jwt f vs S ks=some x->∃ k∈ks,k.f=f/\k.vs=vs/\k.S=S/\x=(k.r,k.T)
 | [],x,h=>by simp[Jwt]at h
 | k::ks,x,h=>by
  simp only[Jwt]at h;split at h
  ·rename_i hc;simp only[Ah,beq_iff_eq]at hc;simp only[V]at h;exact⟨k,Bl,hc.1,Xm _ _ hc.2.1,Jr0 hc.2.2,h.symm⟩
  ·obtain⟨k',h1,h2⟩:=Jlb h;exact⟨k',A7 _ h1,h2⟩
def Jlc(ks:List Kn):Nat->Ky
 | 0=>λ_ _ _=>none
 | n+1=>λf vs S=>match Jwt f vs S ks with
  | some x=>some x
  | none=>match PrN f with
   | some p=>p (Jlc ks n) vs S
   | none=>match FR f with
    | some fn=>enter (Jlc ks n) n fn vs S
    | none=>none
theorem Jld:∀{ks:List Kn},(∀ k∈ks,Jae k)->∃ M,∀ k∈ks,QF PrN FR M k.f k.vs k.S=some (k.r,k.T)
 | [],_=>⟨0,λk h=>EB⟩
 | k::ks,h=>by
  obtain⟨M,hM⟩:=Jld (λk' hk=>h k' (A7 _ hk));obtain⟨n,hn⟩:=h k Bl;refine⟨n+M,λk' hk=>?_⟩;rcases AS.1 hk with rfl |hk
  ·exact Q0 JaJ O _ _ _ _ hn
  ·exact Q0 JaJ O _ _ _ _ (hM k' hk)
theorem JoK{ks:List Kn}{M:Nat}(h:∀ k∈ks,QF PrN FR M k.f k.vs k.S=some (k.r,k.T)):∀ n,CLe (Jlc ks n) (QF PrN FR (M+n))
 | 0=>λf vs S a ha=>by simp[Jlc]at ha
 | n+1=>by
  intro f vs S a ha;have ih:=JoK h n;rw[Jlc]at ha;dsimp only at ha;split at ha
  ·rename_i x hx;obtain⟨k,hk,rfl,rfl,rfl,rfl⟩:=Jlb hx;simp only[V]at ha;subst ha;exact Q0 JaJ O _ _ _ _ (h k hk)
  ·rw[show M+(n+1)=(M+n)+1 by omega,QF];dsimp only;split at ha
   ·rename_i p hp;rw[hp];exact JaJ f p hp _ _ ih vs S a ha
   ·rename_i hp;rw[hp];dsimp only;split at ha
    ·rename_i fn hf;rw[hf];exact Jiu ih O fn vs S a ha
    ·simp at ha
def isK(o:Option (Res×St))(k:Kn):Bool:=match o with
 | some x=>JSp x.1 k.r && JDy x.2 k.T
 | none=>false
theorem JaK{ks:List Kn}(h:∀ k∈ks,Jae k)(k:Kn){n:Nat}(hk:isK (Jlc ks n k.f k.vs k.S) k=true):Jae k:=by
 obtain⟨M,hM⟩:=Jld h;unfold isK at hk;split at hk
 ·rename_i x hx;simp only[Ah]at hk;refine⟨M+n,?_⟩;rw[JoK hM n _ _ _ _ hx];rw[<- JDA hk.1,<- Jr0 hk.2]
 ·simp at hk
def q89:Kn:=⟨89,[.str [99,108,97,115,115,32,66,32,123,32,125,32,99,108,97,115,115,32,67,32,101,120,116,101,110,100,115,32,66,32,123,32,125,32,99,108,97,115,115,32,65,32,123,32,100,101,102,32,102,40,120,58,32,66,41,58,32,105,110,116,32,123,32,114,101,116,117,114,110,32,49,59,32,125,32,100,101,102,32,102,40,120,58,32,67,41,58,32,105,110,116,32,123,32,114,101,116,117,114,110,32,50,59,32,125,32,125,32,109,97,105,110,32,123,32,112,114,105,110,116,32,110,101,119,32,65,40,41,46,102,40,110,101,119,32,67,40,41,41,59,32,125]],
 ⟨[.cells [.list 0 .full [],.list 0 .full []],.cells [.list 0 .full [],.list 0 .full []],.cells [.list 0 .full [],.list 0 .full []]],[]⟩,
 (.ret (.tup [.list 3 (.row 0 59) [[.int .i64 1,.str [99,108,97,115,115],.int .i64 0],[.int .i64 1,.str [66],.int .i64 6],[.int .i64 3,.str [123],.int .i64 8],[.int .i64 3,.str [125],.int .i64 10],[.int .i64 1,.str [99,108,97,115,115],.int .i64 12],[.int .i64 1,.str [67],.int .i64 18],[.int .i64 1,.str [101,120,116,101,110,100,115],.int .i64 20],[.int .i64 1,.str [66],.int .i64 28],[.int .i64 3,.str [123],.int .i64 30],[.int .i64 3,.str [125],.int .i64 32],[.int .i64 1,.str [99,108,97,115,115],.int .i64 34],[.int .i64 1,.str [65],.int .i64 40],[.int .i64 3,.str [123],.int .i64 42],[.int .i64 1,.str [100,101,102],.int .i64 44],[.int .i64 1,.str [102],.int .i64 48],[.int .i64 3,.str [40],.int .i64 49],[.int .i64 1,.str [120],.int .i64 50],[.int .i64 3,.str [58],.int .i64 51],[.int .i64 1,.str [66],.int .i64 53],[.int .i64 3,.str [41],.int .i64 54],[.int .i64 3,.str [58],.int .i64 55],[.int .i64 1,.str [105,110,116],.int .i64 57],[.int .i64 3,.str [123],.int .i64 61],[.int .i64 1,.str [114,101,116,117,114,110],.int .i64 63],[.int .i64 2,.str [49],.int .i64 70],[.int .i64 3,.str [59],.int .i64 71],[.int .i64 3,.str [125],.int .i64 73],[.int .i64 1,.str [100,101,102],.int .i64 75],[.int .i64 1,.str [102],.int .i64 79],[.int .i64 3,.str [40],.int .i64 80],[.int .i64 1,.str [120],.int .i64 81],[.int .i64 3,.str [58],.int .i64 82],[.int .i64 1,.str [67],.int .i64 84],[.int .i64 3,.str [41],.int .i64 85],[.int .i64 3,.str [58],.int .i64 86],[.int .i64 1,.str [105,110,116],.int .i64 88],[.int .i64 3,.str [123],.int .i64 92],[.int .i64 1,.str [114,101,116,117,114,110],.int .i64 94],[.int .i64 2,.str [50],.int .i64 101],[.int .i64 3,.str [59],.int .i64 102],[.int .i64 3,.str [125],.int .i64 104],[.int .i64 3,.str [125],.int .i64 106],[.int .i64 1,.str [109,97,105,110],.int .i64 108],[.int .i64 3,.str [123],.int .i64 113],[.int .i64 1,.str [112,114,105,110,116],.int .i64 115],[.int .i64 1,.str [110,101,119],.int .i64 121],[.int .i64 1,.str [65],.int .i64 125],[.int .i64 3,.str [40],.int .i64 126],[.int .i64 3,.str [41],.int .i64 127],[.int .i64 3,.str [46],.int .i64 128],[.int .i64 1,.str [102],.int .i64 129],[.int .i64 3,.str [40],.int .i64 130],[.int .i64 1,.str [110,101,119],.int .i64 131],[.int .i64 1,.str [67],.int .i64 135],[.int .i64 3,.str [40],.int .i64 136],[.int .i64 3,.str [41],.int .i64 137],[.int .i64 3,.str [41],.int .i64 138],[.int .i64 3,.str [59],.int .i64 139],[.int .i64 3,.str [125],.int .i64 141]],.int .i64 0,.int .i64 0])),
 ⟨[.cells [.list 0 .full [],.list 0 .full []],.cells [.list 0 .full [],.list 0 .full []],.cells [.list 0 .full [],.list 0 .full []]],[59]⟩⟩
def JSq:Kn:=⟨91,[.ptr 3 0],
 ⟨[.cells [.list 0 .full [],.list 0 .full []],.cells [.list 0 .full [],.list 0 .full []],.cells [.list 0 .full [],.list 0 .full []],.cells [.list 3 (.row 0 59) [[.int .i64 1,.str [99,108,97,115,115],.int .i64 0],[.int .i64 1,.str [66],.int .i64 6],[.int .i64 3,.str [123],.int .i64 8],[.int .i64 3,.str [125],.int .i64 10],[.int .i64 1,.str [99,108,97,115,115],.int .i64 12],[.int .i64 1,.str [67],.int .i64 18],[.int .i64 1,.str [101,120,116,101,110,100,115],.int .i64 20],[.int .i64 1,.str [66],.int .i64 28],[.int .i64 3,.str [123],.int .i64 30],[.int .i64 3,.str [125],.int .i64 32],[.int .i64 1,.str [99,108,97,115,115],.int .i64 34],[.int .i64 1,.str [65],.int .i64 40],[.int .i64 3,.str [123],.int .i64 42],[.int .i64 1,.str [100,101,102],.int .i64 44],[.int .i64 1,.str [102],.int .i64 48],[.int .i64 3,.str [40],.int .i64 49],[.int .i64 1,.str [120],.int .i64 50],[.int .i64 3,.str [58],.int .i64 51],[.int .i64 1,.str [66],.int .i64 53],[.int .i64 3,.str [41],.int .i64 54],[.int .i64 3,.str [58],.int .i64 55],[.int .i64 1,.str [105,110,116],.int .i64 57],[.int .i64 3,.str [123],.int .i64 61],[.int .i64 1,.str [114,101,116,117,114,110],.int .i64 63],[.int .i64 2,.str [49],.int .i64 70],[.int .i64 3,.str [59],.int .i64 71],[.int .i64 3,.str [125],.int .i64 73],[.int .i64 1,.str [100,101,102],.int .i64 75],[.int .i64 1,.str [102],.int .i64 79],[.int .i64 3,.str [40],.int .i64 80],[.int .i64 1,.str [120],.int .i64 81],[.int .i64 3,.str [58],.int .i64 82],[.int .i64 1,.str [67],.int .i64 84],[.int .i64 3,.str [41],.int .i64 85],[.int .i64 3,.str [58],.int .i64 86],[.int .i64 1,.str [105,110,116],.int .i64 88],[.int .i64 3,.str [123],.int .i64 92],[.int .i64 1,.str [114,101,116,117,114,110],.int .i64 94],[.int .i64 2,.str [50],.int .i64 101],[.int .i64 3,.str [59],.int .i64 102],[.int .i64 3,.str [125],.int .i64 104],[.int .i64 3,.str [125],.int .i64 106],[.int .i64 1,.str [109,97,105,110],.int .i64 108],[.int .i64 3,.str [123],.int .i64 113],[.int .i64 1,.str [112,114,105,110,116],.int .i64 115],[.int .i64 1,.str [110,101,119],.int .i64 121],[.int .i64 1,.str [65],.int .i64 125],[.int .i64 3,.str [40],.int .i64 126],[.int .i64 3,.str [41],.int .i64 127],[.int .i64 3,.str [46],.int .i64 128],[.int .i64 1,.str [102],.int .i64 129],[.int .i64 3,.str [40],.int .i64 130],[.int .i64 1,.str [110,101,119],.int .i64 131],[.int .i64 1,.str [67],.int .i64 135],[.int .i64 3,.str [40],.int .i64 136],[.int .i64 3,.str [41],.int .i64 137],[.int .i64 3,.str [41],.int .i64 138],[.int .i64 3,.str [59],.int .i64 139],[.int .i64 3,.str [125],.int .i64 141]],.int .i64 0,.int .i64 142,.int .i64 0,.int .i64 0,.int .i64 0],.cells [.list 0 .full [],.list 0 .full []]],[59]⟩,
 (.ret (.agg [.str [66],.bool false,.str [],.list 0 .full [],.list 0 .full [],.list 0 .full [],.list 0 .full [],.list 0 .full [],.int .i64 6])),
 ⟨[.cells [.list 0 .full [],.list 0 .full []],.cells [.list 0 .full [],.list 0 .full []],.cells [.list 0 .full [],.list 0 .full []],.cells [.list 3 (.row 0 59) [[.int .i64 1,.str [99,108,97,115,115],.int .i64 0],[.int .i64 1,.str [66],.int .i64 6],[.int .i64 3,.str [123],.int .i64 8],[.int .i64 3,.str [125],.int .i64 10],[.int .i64 1,.str [99,108,97,115,115],.int .i64 12],[.int .i64 1,.str [67],.int .i64 18],[.int .i64 1,.str [101,120,116,101,110,100,115],.int .i64 20],[.int .i64 1,.str [66],.int .i64 28],[.int .i64 3,.str [123],.int .i64 30],[.int .i64 3,.str [125],.int .i64 32],[.int .i64 1,.str [99,108,97,115,115],.int .i64 34],[.int .i64 1,.str [65],.int .i64 40],[.int .i64 3,.str [123],.int .i64 42],[.int .i64 1,.str [100,101,102],.int .i64 44],[.int .i64 1,.str [102],.int .i64 48],[.int .i64 3,.str [40],.int .i64 49],[.int .i64 1,.str [120],.int .i64 50],[.int .i64 3,.str [58],.int .i64 51],[.int .i64 1,.str [66],.int .i64 53],[.int .i64 3,.str [41],.int .i64 54],[.int .i64 3,.str [58],.int .i64 55],[.int .i64 1,.str [105,110,116],.int .i64 57],[.int .i64 3,.str [123],.int .i64 61],[.int .i64 1,.str [114,101,116,117,114,110],.int .i64 63],[.int .i64 2,.str [49],.int .i64 70],[.int .i64 3,.str [59],.int .i64 71],[.int .i64 3,.str [125],.int .i64 73],[.int .i64 1,.str [100,101,102],.int .i64 75],[.int .i64 1,.str [102],.int .i64 79],[.int .i64 3,.str [40],.int .i64 80],[.int .i64 1,.str [120],.int .i64 81],[.int .i64 3,.str [58],.int .i64 82],[.int .i64 1,.str [67],.int .i64 84],[.int .i64 3,.str [41],.int .i64 85],[.int .i64 3,.str [58],.int .i64 86],[.int .i64 1,.str [105,110,116],.int .i64 88],[.int .i64 3,.str [123],.int .i64 92],[.int .i64 1,.str [114,101,116,117,114,110],.int .i64 94],[.int .i64 2,.str [50],.int .i64 101],[.int .i64 3,.str [59],.int .i64 102],[.int .i64 3,.str [125],.int .i64 104],[.int .i64 3,.str [125],.int .i64 106],[.int .i64 1,.str [109,97,105,110],.int .i64 108],[.int .i64 3,.str [123],.int .i64 113],[.int .i64 1,.str [112,114,105,110,116],.int .i64 115],[.int .i64 1,.str [110,101,119],.int .i64 121],[.int .i64 1,.str [65],.int .i64 125],[.int .i64 3,.str [40],.int .i64 126],[.int .i64 3,.str [41],.int .i64 127],[.int .i64 3,.str [46],.int .i64 128],[.int .i64 1,.str [102],.int .i64 129],[.int .i64 3,.str [40],.int .i64 130],[.int .i64 1,.str [110,101,119],.int .i64 131],[.int .i64 1,.str [67],.int .i64 135],[.int .i64 3,.str [40],.int .i64 136],[.int .i64 3,.str [41],.int .i64 137],[.int .i64 3,.str [41],.int .i64 138],[.int .i64 3,.str [59],.int .i64 139],[.int .i64 3,.str [125],.int .i64 141]],.int .i64 4,.int .i64 142,.int .i64 0,.int .i64 0,.int .i64 0],.cells [.list 0 .full [],.list 0 .full []]],[59]⟩⟩
def JSr:Kn:=⟨91,[.ptr 3 0],
 ⟨[.cells [.list 0 .full [],.list 0 .full []],.cells [.list 0 .full [],.list 0 .full []],.cells [.list 0 .full [],.list 0 .full []],.cells [.list 3 (.row 0 59) [[.int .i64 1,.str [99,108,97,115,115],.int .i64 0],[.int .i64 1,.str [66],.int .i64 6],[.int .i64 3,.str [123],.int .i64 8],[.int .i64 3,.str [125],.int .i64 10],[.int .i64 1,.str [99,108,97,115,115],.int .i64 12],[.int .i64 1,.str [67],.int .i64 18],[.int .i64 1,.str [101,120,116,101,110,100,115],.int .i64 20],[.int .i64 1,.str [66],.int .i64 28],[.int .i64 3,.str [123],.int .i64 30],[.int .i64 3,.str [125],.int .i64 32],[.int .i64 1,.str [99,108,97,115,115],.int .i64 34],[.int .i64 1,.str [65],.int .i64 40],[.int .i64 3,.str [123],.int .i64 42],[.int .i64 1,.str [100,101,102],.int .i64 44],[.int .i64 1,.str [102],.int .i64 48],[.int .i64 3,.str [40],.int .i64 49],[.int .i64 1,.str [120],.int .i64 50],[.int .i64 3,.str [58],.int .i64 51],[.int .i64 1,.str [66],.int .i64 53],[.int .i64 3,.str [41],.int .i64 54],[.int .i64 3,.str [58],.int .i64 55],[.int .i64 1,.str [105,110,116],.int .i64 57],[.int .i64 3,.str [123],.int .i64 61],[.int .i64 1,.str [114,101,116,117,114,110],.int .i64 63],[.int .i64 2,.str [49],.int .i64 70],[.int .i64 3,.str [59],.int .i64 71],[.int .i64 3,.str [125],.int .i64 73],[.int .i64 1,.str [100,101,102],.int .i64 75],[.int .i64 1,.str [102],.int .i64 79],[.int .i64 3,.str [40],.int .i64 80],[.int .i64 1,.str [120],.int .i64 81],[.int .i64 3,.str [58],.int .i64 82],[.int .i64 1,.str [67],.int .i64 84],[.int .i64 3,.str [41],.int .i64 85],[.int .i64 3,.str [58],.int .i64 86],[.int .i64 1,.str [105,110,116],.int .i64 88],[.int .i64 3,.str [123],.int .i64 92],[.int .i64 1,.str [114,101,116,117,114,110],.int .i64 94],[.int .i64 2,.str [50],.int .i64 101],[.int .i64 3,.str [59],.int .i64 102],[.int .i64 3,.str [125],.int .i64 104],[.int .i64 3,.str [125],.int .i64 106],[.int .i64 1,.str [109,97,105,110],.int .i64 108],[.int .i64 3,.str [123],.int .i64 113],[.int .i64 1,.str [112,114,105,110,116],.int .i64 115],[.int .i64 1,.str [110,101,119],.int .i64 121],[.int .i64 1,.str [65],.int .i64 125],[.int .i64 3,.str [40],.int .i64 126],[.int .i64 3,.str [41],.int .i64 127],[.int .i64 3,.str [46],.int .i64 128],[.int .i64 1,.str [102],.int .i64 129],[.int .i64 3,.str [40],.int .i64 130],[.int .i64 1,.str [110,101,119],.int .i64 131],[.int .i64 1,.str [67],.int .i64 135],[.int .i64 3,.str [40],.int .i64 136],[.int .i64 3,.str [41],.int .i64 137],[.int .i64 3,.str [41],.int .i64 138],[.int .i64 3,.str [59],.int .i64 139],[.int .i64 3,.str [125],.int .i64 141]],.int .i64 4,.int .i64 142,.int .i64 0,.int .i64 0,.int .i64 0],.cells [.list 9 (.row 1 1) [[.str [66],.bool false,.str [],.list 0 .full [],.list 0 .full [],.list 0 .full [],.list 0 .full [],.list 0 .full [],.int .i64 6]],.list 0 .full []]],[59,1]⟩,
 (.ret (.agg [.str [67],.bool false,.str [66],.list 0 .full [],.list 0 .full [],.list 0 .full [],.list 0 .full [],.list 0 .full [],.int .i64 18])),
 ⟨[.cells [.list 0 .full [],.list 0 .full []],.cells [.list 0 .full [],.list 0 .full []],.cells [.list 0 .full [],.list 0 .full []],.cells [.list 3 (.row 0 59) [[.int .i64 1,.str [99,108,97,115,115],.int .i64 0],[.int .i64 1,.str [66],.int .i64 6],[.int .i64 3,.str [123],.int .i64 8],[.int .i64 3,.str [125],.int .i64 10],[.int .i64 1,.str [99,108,97,115,115],.int .i64 12],[.int .i64 1,.str [67],.int .i64 18],[.int .i64 1,.str [101,120,116,101,110,100,115],.int .i64 20],[.int .i64 1,.str [66],.int .i64 28],[.int .i64 3,.str [123],.int .i64 30],[.int .i64 3,.str [125],.int .i64 32],[.int .i64 1,.str [99,108,97,115,115],.int .i64 34],[.int .i64 1,.str [65],.int .i64 40],[.int .i64 3,.str [123],.int .i64 42],[.int .i64 1,.str [100,101,102],.int .i64 44],[.int .i64 1,.str [102],.int .i64 48],[.int .i64 3,.str [40],.int .i64 49],[.int .i64 1,.str [120],.int .i64 50],[.int .i64 3,.str [58],.int .i64 51],[.int .i64 1,.str [66],.int .i64 53],[.int .i64 3,.str [41],.int .i64 54],[.int .i64 3,.str [58],.int .i64 55],[.int .i64 1,.str [105,110,116],.int .i64 57],[.int .i64 3,.str [123],.int .i64 61],[.int .i64 1,.str [114,101,116,117,114,110],.int .i64 63],[.int .i64 2,.str [49],.int .i64 70],[.int .i64 3,.str [59],.int .i64 71],[.int .i64 3,.str [125],.int .i64 73],[.int .i64 1,.str [100,101,102],.int .i64 75],[.int .i64 1,.str [102],.int .i64 79],[.int .i64 3,.str [40],.int .i64 80],[.int .i64 1,.str [120],.int .i64 81],[.int .i64 3,.str [58],.int .i64 82],[.int .i64 1,.str [67],.int .i64 84],[.int .i64 3,.str [41],.int .i64 85],[.int .i64 3,.str [58],.int .i64 86],[.int .i64 1,.str [105,110,116],.int .i64 88],[.int .i64 3,.str [123],.int .i64 92],[.int .i64 1,.str [114,101,116,117,114,110],.int .i64 94],[.int .i64 2,.str [50],.int .i64 101],[.int .i64 3,.str [59],.int .i64 102],[.int .i64 3,.str [125],.int .i64 104],[.int .i64 3,.str [125],.int .i64 106],[.int .i64 1,.str [109,97,105,110],.int .i64 108],[.int .i64 3,.str [123],.int .i64 113],[.int .i64 1,.str [112,114,105,110,116],.int .i64 115],[.int .i64 1,.str [110,101,119],.int .i64 121],[.int .i64 1,.str [65],.int .i64 125],[.int .i64 3,.str [40],.int .i64 126],[.int .i64 3,.str [41],.int .i64 127],[.int .i64 3,.str [46],.int .i64 128],[.int .i64 1,.str [102],.int .i64 129],[.int .i64 3,.str [40],.int .i64 130],[.int .i64 1,.str [110,101,119],.int .i64 131],[.int .i64 1,.str [67],.int .i64 135],[.int .i64 3,.str [40],.int .i64 136],[.int .i64 3,.str [41],.int .i64 137],[.int .i64 3,.str [41],.int .i64 138],[.int .i64 3,.str [59],.int .i64 139],[.int .i64 3,.str [125],.int .i64 141]],.int .i64 10,.int .i64 142,.int .i64 0,.int .i64 0,.int .i64 0],.cells [.list 9 (.row 1 1) [[.str [66],.bool false,.str [],.list 0 .full [],.list 0 .full [],.list 0 .full [],.list 0 .full [],.list 0 .full [],.int .i64 6]],.list 0 .full []]],[59,1]⟩⟩
def JSs:Kn:=⟨91,[.ptr 3 0],
 ⟨[.cells [.list 0 .full [],.list 0 .full []],.cells [.list 0 .full [],.list 0 .full []],.cells [.list 0 .full [],.list 0 .full []],.cells [.list 3 (.row 0 59) [[.int .i64 1,.str [99,108,97,115,115],.int .i64 0],[.int .i64 1,.str [66],.int .i64 6],[.int .i64 3,.str [123],.int .i64 8],[.int .i64 3,.str [125],.int .i64 10],[.int .i64 1,.str [99,108,97,115,115],.int .i64 12],[.int .i64 1,.str [67],.int .i64 18],[.int .i64 1,.str [101,120,116,101,110,100,115],.int .i64 20],[.int .i64 1,.str [66],.int .i64 28],[.int .i64 3,.str [123],.int .i64 30],[.int .i64 3,.str [125],.int .i64 32],[.int .i64 1,.str [99,108,97,115,115],.int .i64 34],[.int .i64 1,.str [65],.int .i64 40],[.int .i64 3,.str [123],.int .i64 42],[.int .i64 1,.str [100,101,102],.int .i64 44],[.int .i64 1,.str [102],.int .i64 48],[.int .i64 3,.str [40],.int .i64 49],[.int .i64 1,.str [120],.int .i64 50],[.int .i64 3,.str [58],.int .i64 51],[.int .i64 1,.str [66],.int .i64 53],[.int .i64 3,.str [41],.int .i64 54],[.int .i64 3,.str [58],.int .i64 55],[.int .i64 1,.str [105,110,116],.int .i64 57],[.int .i64 3,.str [123],.int .i64 61],[.int .i64 1,.str [114,101,116,117,114,110],.int .i64 63],[.int .i64 2,.str [49],.int .i64 70],[.int .i64 3,.str [59],.int .i64 71],[.int .i64 3,.str [125],.int .i64 73],[.int .i64 1,.str [100,101,102],.int .i64 75],[.int .i64 1,.str [102],.int .i64 79],[.int .i64 3,.str [40],.int .i64 80],[.int .i64 1,.str [120],.int .i64 81],[.int .i64 3,.str [58],.int .i64 82],[.int .i64 1,.str [67],.int .i64 84],[.int .i64 3,.str [41],.int .i64 85],[.int .i64 3,.str [58],.int .i64 86],[.int .i64 1,.str [105,110,116],.int .i64 88],[.int .i64 3,.str [123],.int .i64 92],[.int .i64 1,.str [114,101,116,117,114,110],.int .i64 94],[.int .i64 2,.str [50],.int .i64 101],[.int .i64 3,.str [59],.int .i64 102],[.int .i64 3,.str [125],.int .i64 104],[.int .i64 3,.str [125],.int .i64 106],[.int .i64 1,.str [109,97,105,110],.int .i64 108],[.int .i64 3,.str [123],.int .i64 113],[.int .i64 1,.str [112,114,105,110,116],.int .i64 115],[.int .i64 1,.str [110,101,119],.int .i64 121],[.int .i64 1,.str [65],.int .i64 125],[.int .i64 3,.str [40],.int .i64 126],[.int .i64 3,.str [41],.int .i64 127],[.int .i64 3,.str [46],.int .i64 128],[.int .i64 1,.str [102],.int .i64 129],[.int .i64 3,.str [40],.int .i64 130],[.int .i64 1,.str [110,101,119],.int .i64 131],[.int .i64 1,.str [67],.int .i64 135],[.int .i64 3,.str [40],.int .i64 136],[.int .i64 3,.str [41],.int .i64 137],[.int .i64 3,.str [41],.int .i64 138],[.int .i64 3,.str [59],.int .i64 139],[.int .i64 3,.str [125],.int .i64 141]],.int .i64 10,.int .i64 142,.int .i64 0,.int .i64 0,.int .i64 0],.cells [.list 9 (.row 1 2) [[.str [66],.bool false,.str [],.list 0 .full [],.list 0 .full [],.list 0 .full [],.list 0 .full [],.list 0 .full [],.int .i64 6],[.str [67],.bool false,.str [66],.list 0 .full [],.list 0 .full [],.list 0 .full [],.list 0 .full [],.list 0 .full [],.int .i64 18]],.list 0 .full []]],[59,2]⟩,
 (.ret (.agg [.str [65],.bool false,.str [],.list 0 .full [],.list 0 .full [],.list 0 .full [],.list 0 .full [],.list 11 .dead [[.str [102],.list 8 .dead [[.str [120],.int .i64 3,.str [66],.bool false,.list 0 .full [],.list 0 .full [],.int .i64 53,.int .i64 50]],.int .i64 1,.str [],.bool false,.list 0 .full [],.list 0 .full [],.int .i64 57,.list 7 .dead [[.str [114,101,116,117,114,110],.str [],.list 0 .full [],.list 5 .dead [[.str [110,117,109],.str [49],.list 0 .full [],.list 0 .full [],.int .i64 70]],.list 0 .full [],.list 0 .full [],.int .i64 63]],.bool false,.int .i64 48],[.str [102],.list 8 .dead [[.str [120],.int .i64 3,.str [67],.bool false,.list 0 .full [],.list 0 .full [],.int .i64 84,.int .i64 81]],.int .i64 1,.str [],.bool false,.list 0 .full [],.list 0 .full [],.int .i64 88,.list 7 .dead [[.str [114,101,116,117,114,110],.str [],.list 0 .full [],.list 5 .dead [[.str [110,117,109],.str [50],.list 0 .full [],.list 0 .full [],.int .i64 101]],.list 0 .full [],.list 0 .full [],.int .i64 94]],.bool false,.int .i64 79]],.int .i64 40])),
 ⟨[.cells [.list 0 .full [],.list 0 .full []],.cells [.list 0 .full [],.list 0 .full []],.cells [.list 0 .full [],.list 0 .full []],.cells [.list 3 (.row 0 59) [[.int .i64 1,.str [99,108,97,115,115],.int .i64 0],[.int .i64 1,.str [66],.int .i64 6],[.int .i64 3,.str [123],.int .i64 8],[.int .i64 3,.str [125],.int .i64 10],[.int .i64 1,.str [99,108,97,115,115],.int .i64 12],[.int .i64 1,.str [67],.int .i64 18],[.int .i64 1,.str [101,120,116,101,110,100,115],.int .i64 20],[.int .i64 1,.str [66],.int .i64 28],[.int .i64 3,.str [123],.int .i64 30],[.int .i64 3,.str [125],.int .i64 32],[.int .i64 1,.str [99,108,97,115,115],.int .i64 34],[.int .i64 1,.str [65],.int .i64 40],[.int .i64 3,.str [123],.int .i64 42],[.int .i64 1,.str [100,101,102],.int .i64 44],[.int .i64 1,.str [102],.int .i64 48],[.int .i64 3,.str [40],.int .i64 49],[.int .i64 1,.str [120],.int .i64 50],[.int .i64 3,.str [58],.int .i64 51],[.int .i64 1,.str [66],.int .i64 53],[.int .i64 3,.str [41],.int .i64 54],[.int .i64 3,.str [58],.int .i64 55],[.int .i64 1,.str [105,110,116],.int .i64 57],[.int .i64 3,.str [123],.int .i64 61],[.int .i64 1,.str [114,101,116,117,114,110],.int .i64 63],[.int .i64 2,.str [49],.int .i64 70],[.int .i64 3,.str [59],.int .i64 71],[.int .i64 3,.str [125],.int .i64 73],[.int .i64 1,.str [100,101,102],.int .i64 75],[.int .i64 1,.str [102],.int .i64 79],[.int .i64 3,.str [40],.int .i64 80],[.int .i64 1,.str [120],.int .i64 81],[.int .i64 3,.str [58],.int .i64 82],[.int .i64 1,.str [67],.int .i64 84],[.int .i64 3,.str [41],.int .i64 85],[.int .i64 3,.str [58],.int .i64 86],[.int .i64 1,.str [105,110,116],.int .i64 88],[.int .i64 3,.str [123],.int .i64 92],[.int .i64 1,.str [114,101,116,117,114,110],.int .i64 94],[.int .i64 2,.str [50],.int .i64 101],[.int .i64 3,.str [59],.int .i64 102],[.int .i64 3,.str [125],.int .i64 104],[.int .i64 3,.str [125],.int .i64 106],[.int .i64 1,.str [109,97,105,110],.int .i64 108],[.int .i64 3,.str [123],.int .i64 113],[.int .i64 1,.str [112,114,105,110,116],.int .i64 115],[.int .i64 1,.str [110,101,119],.int .i64 121],[.int .i64 1,.str [65],.int .i64 125],[.int .i64 3,.str [40],.int .i64 126],[.int .i64 3,.str [41],.int .i64 127],[.int .i64 3,.str [46],.int .i64 128],[.int .i64 1,.str [102],.int .i64 129],[.int .i64 3,.str [40],.int .i64 130],[.int .i64 1,.str [110,101,119],.int .i64 131],[.int .i64 1,.str [67],.int .i64 135],[.int .i64 3,.str [40],.int .i64 136],[.int .i64 3,.str [41],.int .i64 137],[.int .i64 3,.str [41],.int .i64 138],[.int .i64 3,.str [59],.int .i64 139],[.int .i64 3,.str [125],.int .i64 141]],.int .i64 42,.int .i64 142,.int .i64 0,.int .i64 0,.int .i64 0],.cells [.list 9 (.row 1 2) [[.str [66],.bool false,.str [],.list 0 .full [],.list 0 .full [],.list 0 .full [],.list 0 .full [],.list 0 .full [],.int .i64 6],[.str [67],.bool false,.str [66],.list 0 .full [],.list 0 .full [],.list 0 .full [],.list 0 .full [],.list 0 .full [],.int .i64 18]],.list 0 .full []]],[59,2,1,1,2,1,1]⟩⟩
def q51:Kn:=⟨51,[.str [99,108,97,115,115,32,66,32,123,32,125,32,99,108,97,115,115,32,67,32,101,120,116,101,110,100,115,32,66,32,123,32,125,32,99,108,97,115,115,32,65,32,123,32,100,101,102,32,102,40,120,58,32,66,41,58,32,105,110,116,32,123,32,114,101,116,117,114,110,32,49,59,32,125,32,100,101,102,32,102,40,120,58,32,67,41,58,32,105,110,116,32,123,32,114,101,116,117,114,110,32,50,59,32,125,32,125,32,109,97,105,110,32,123,32,112,114,105,110,116,32,110,101,119,32,65,40,41,46,102,40,110,101,119,32,67,40,41,41,59,32,125]],
 ⟨[.cells [.list 0 .full [],.list 0 .full []],.cells [.list 0 .full [],.list 0 .full []]],[]⟩,
 (.ret (.tup [.agg [.list 9 .dead [[.str [66],.bool false,.str [],.list 0 .full [],.list 0 .full [],.list 0 .full [],.list 0 .full [],.list 0 .full [],.int .i64 6],[.str [67],.bool false,.str [66],.list 0 .full [],.list 0 .full [],.list 0 .full [],.list 0 .full [],.list 0 .full [],.int .i64 18],[.str [65],.bool false,.str [],.list 0 .full [],.list 0 .full [],.list 0 .full [],.list 0 .full [],.list 11 .dead [[.str [102],.list 8 .dead [[.str [120],.int .i64 3,.str [66],.bool false,.list 0 .full [],.list 0 .full [],.int .i64 53,.int .i64 50]],.int .i64 1,.str [],.bool false,.list 0 .full [],.list 0 .full [],.int .i64 57,.list 7 .dead [[.str [114,101,116,117,114,110],.str [],.list 0 .full [],.list 5 .dead [[.str [110,117,109],.str [49],.list 0 .full [],.list 0 .full [],.int .i64 70]],.list 0 .full [],.list 0 .full [],.int .i64 63]],.bool false,.int .i64 48],[.str [102],.list 8 .dead [[.str [120],.int .i64 3,.str [67],.bool false,.list 0 .full [],.list 0 .full [],.int .i64 84,.int .i64 81]],.int .i64 1,.str [],.bool false,.list 0 .full [],.list 0 .full [],.int .i64 88,.list 7 .dead [[.str [114,101,116,117,114,110],.str [],.list 0 .full [],.list 5 .dead [[.str [110,117,109],.str [50],.list 0 .full [],.list 0 .full [],.int .i64 101]],.list 0 .full [],.list 0 .full [],.int .i64 94]],.bool false,.int .i64 79]],.int .i64 40]],.list 7 .dead [[.str [112,114,105,110,116],.str [],.list 0 .full [],.list 5 .dead [[.str [99,97,108,108],.str [102],.list 5 .dead [[.str [110,101,119],.str [65],.list 0 .full [],.list 0 .full [],.int .i64 121],[.str [110,101,119],.str [67],.list 0 .full [],.list 0 .full [],.int .i64 131]],.list 0 .full [],.int .i64 129]],.list 0 .full [],.list 0 .full [],.int .i64 115]]],.int .i64 0,.int .i64 0])),
 ⟨[.cells [.list 0 .full [],.list 0 .full []],.cells [.list 0 .full [],.list 0 .full []]],[59,3,1,1,2,1,1,1,2,1]⟩⟩
def q41:Kn:=⟨41,[.str [99,108,97,115,115,32,66,32,123,32,125,32,99,108,97,115,115,32,67,32,101,120,116,101,110,100,115,32,66,32,123,32,125,32,99,108,97,115,115,32,65,32,123,32,100,101,102,32,102,40,120,58,32,66,41,58,32,105,110,116,32,123,32,114,101,116,117,114,110,32,49,59,32,125,32,100,101,102,32,102,40,120,58,32,67,41,58,32,105,110,116,32,123,32,114,101,116,117,114,110,32,50,59,32,125,32,125,32,109,97,105,110,32,123,32,112,114,105,110,116,32,110,101,119,32,65,40,41,46,102,40,110,101,119,32,67,40,41,41,59,32,125]],
 ⟨[],[]⟩,
 (.ret (.tup [.agg [.list 9 .dead [[.str [66],.bool false,.str [],.list 0 .full [],.list 0 .full [],.list 0 .full [],.list 0 .full [],.list 0 .full [],.int .i64 6],[.str [67],.bool false,.str [66],.list 0 .full [],.list 0 .full [],.list 0 .full [],.list 0 .full [],.list 0 .full [],.int .i64 18],[.str [65],.bool false,.str [],.list 0 .full [],.list 0 .full [],.list 0 .full [],.list 0 .full [],.list 11 .dead [[.str [102],.list 8 .dead [[.str [120],.int .i64 3,.str [66],.bool false,.list 0 .full [],.list 0 .full [],.int .i64 53,.int .i64 50]],.int .i64 1,.str [],.bool false,.list 0 .full [],.list 0 .full [],.int .i64 57,.list 7 .dead [[.str [114,101,116,117,114,110],.str [],.list 0 .full [],.list 5 .dead [[.str [110,117,109],.str [49],.list 0 .full [],.list 0 .full [],.int .i64 70]],.list 0 .full [],.list 0 .full [],.int .i64 63]],.bool false,.int .i64 48],[.str [102],.list 8 .dead [[.str [120],.int .i64 3,.str [67],.bool false,.list 0 .full [],.list 0 .full [],.int .i64 84,.int .i64 81]],.int .i64 1,.str [],.bool false,.list 0 .full [],.list 0 .full [],.int .i64 88,.list 7 .dead [[.str [114,101,116,117,114,110],.str [],.list 0 .full [],.list 5 .dead [[.str [110,117,109],.str [50],.list 0 .full [],.list 0 .full [],.int .i64 101]],.list 0 .full [],.list 0 .full [],.int .i64 94]],.bool false,.int .i64 79]],.int .i64 40]],.list 7 .dead [[.str [112,114,105,110,116],.str [],.list 0 .full [],.list 5 .dead [[.str [99,97,108,108],.str [102],.list 5 .dead [[.str [110,101,119],.str [65],.list 0 .full [],.list 0 .full [],.int .i64 121],[.str [110,101,119],.str [67],.list 0 .full [],.list 0 .full [],.int .i64 131]],.list 0 .full [],.int .i64 129]],.list 0 .full [],.list 0 .full [],.int .i64 115]]],.bool true])),
 ⟨[],[59,3,1,1,2,1,1,1,2,1]⟩⟩
theorem J1n:∀ k∈([]:List Kn),Jae k:=λk h=>EB
theorem J1o:Jae q89:=JaK J1n q89 (n:=300) Ae
theorem JSt:∀ k∈([]:List Kn),Jae k:=λk h=>EB
theorem JSu:Jae JSq:=JaK JSt JSq (n:=300) Ae
theorem JSv:∀ k∈([]:List Kn),Jae k:=λk h=>EB
theorem JSw:Jae JSr:=JaK JSv JSr (n:=300) Ae
theorem JSx:∀ k∈([]:List Kn),Jae k:=λk h=>EB
theorem JSy:Jae JSs:=JaK JSx JSs (n:=300) Ae
theorem J1p:∀ k∈([q89,JSq,JSr,JSs]:List Kn),Jae k:=by
 intro k hk;simp only[AS,CH,or_false]at hk;rcases hk with rfl |rfl |rfl |rfl
 ·exact J1o
 ·exact JSu
 ·exact JSw
 ·exact JSy
theorem J1q:Jae q51:=JaK J1p q51 (n:=300) Ae
theorem J1r:∀ k∈([q51]:List Kn),Jae k:=by
 intro k hk;simp only[AS,CH,or_false]at hk;rcases hk with rfl
 ·exact J1q
theorem J1s:Jae q41:=JaK J1r q41 (n:=300) Ae
def sb1:Code->Code
 | .seq a _=>a
 | c=>c
def sb2:Code->Code
 | .seq _ b=>b
 | c=>c
def sbT:Code->Code
 | .cond _ b _=>b
 | c=>c
def a42:Code:=sb1 (Tryz.f42.body.getD .skip)
def b42:Code:=sb1 (sb2 (Tryz.f42.body.getD .skip))
def c42:Code:=sb1 (sb2 (sb2 (Tryz.f42.body.getD .skip)))
def d42:Code:=sb1 (sb2 (sb2 (sb2 (Tryz.f42.body.getD .skip))))
def e42:Code:=sb2 (sb2 (sb2 (sb2 (Tryz.f42.body.getD .skip))))
theorem JSz:Tryz.f42.body=some (.seq a42 (.seq b42 (.seq c42 (.seq d42 e42)))):=by unfold a42 b42 c42 d42 e42 Tryz.f42;rfl
def a76:Code:=sb1 (Tryz.f76.body.getD .skip)
def b76:Code:=sb1 (sb2 (Tryz.f76.body.getD .skip))
def t76:Code:=sbT (sb2 (sb2 (Tryz.f76.body.getD .skip)))
theorem Jwv:Tryz.f76.body=some (.seq a76 (.seq b76 (.cond (.tmp 8) t76 .skip))):=by unfold a76 b76 t76 Tryz.f76;rfl
theorem JDB:Yn Tryz.prog Tryz.f42.ntmps Jk5 a42=true:=by unfold a42;kernel_rfl
theorem JDC:Yn Tryz.prog Tryz.f42.ntmps Jk6 b42=true:=by unfold b42;kernel_rfl
theorem Jr1:Yn Tryz.prog Tryz.f42.ntmps Jqa c42=true:=by unfold c42;kernel_rfl
theorem Jr2:Yn Tryz.prog Tryz.f42.ntmps Jqb e42=true:=by unfold e42;kernel_rfl
theorem JDD:Yn Tryz.prog Tryz.f76.ntmps Jj3 t76=true:=by unfold t76;kernel_rfl
theorem JEA:zC [2,3,4] Jqb=true:=Ae
theorem Jqg:JeM Tryz.prog Jce Tryz.f42.results.toList=true:=Ae
theorem JDE(us:Array Value)(w:World):(callFunc 42 us).run Tryz.prog w=.ok (.enter 42 us) w:=by
 have hf:=Tryz.func42;have hb:Tryz.f42.body.isSome=true:=Ae;have h2:(Tryz.f42.name != "runtime.NumGoroutine")=true:=Ae;obtain⟨c,hc⟩:=BQ.1 hb;have h3:¬Tryz.f42.name = "runtime.NumGoroutine":=Fo
 simp[callFunc,hf,h3,hc]
theorem JDF(us:Array Value)(w:World):(callFunc 76 us).run Tryz.prog w=.ok (.enter 76 us) w:=by
 have hf:=Tryz.func76;have hb:Tryz.f76.body.isSome=true:=Ae;have h2:(Tryz.f76.name != "runtime.NumGoroutine")=true:=Ae;obtain⟨c,hc⟩:=BQ.1 hb;have h3:¬Tryz.f76.name = "runtime.NumGoroutine":=Fo
 simp[callFunc,hf,h3,hc]
theorem JEB:∃ ms,Tryz.prog.underlying 20=some (.interface ms):=by
 have h:(match Tryz.prog.underlying 20 with |some (.interface _)=>true |_=>false)=true:=Ae;split at h
 ·rename_i ms hm;exact⟨ms,hm⟩
 ·cases h
theorem Jww(w:World):(binOp .neq 20 .nilIface .nilIface).run Tryz.prog w=.ok (.bool false) w:=by
 obtain⟨ms,hm⟩:=JEB;have h:∀ d:Nat,(Op.equalIn (d+1) 20 .nilIface .nilIface).run Tryz.prog w=.ok true w:=λd=>by simp[Op.equalIn,run_underlying hm]
 simp only[binOp];simp[Op.equal,Op.maxDepth,h 9999]
theorem Jwx(t:TypeId)(v:Value)(w:World):(binOp .neq 20 (.iface t v) .nilIface).run Tryz.prog w=.ok (.bool true) w:=by
 obtain⟨ms,hm⟩:=JEB;have h:∀ d:Nat,(Op.equalIn (d+1) 20 (.iface t v) .nilIface).run Tryz.prog w=.ok false w:=λd=>by simp[Op.equalIn,run_underlying hm]
 simp only[binOp];simp[Op.equal,Op.maxDepth,h 9999]
theorem Jqh(c:Frame){u:FrameMode}(h:c.mode=u):{c with mode:=u}=c:=by subst h;rfl
theorem Jwy{Q:Exit->Act->List Frame->World->Prop}{x y z:Value}{w:World}{c₀:Frame}{cs:List Frame}(hu:c₀.mode=.returning)(hq:∀ a',a'.defers=[]->Q .normal a' (c₀::cs) w) :
  (Code.seq a76 (.seq b76 (.cond (.tmp 8) t76 .skip))).wpS Tryz.prog Q {tmps:=#[x,y,z]++Array.replicate (Tryz.f76.ntmps-3) Go.undef,defers:=[]} (c₀::cs) w:=by
 have h1:=Jww;apply wpS_seq;unfold a76 Tryz.f76;dsimp only[Option.getD_some,sb1];apply wpS_region;simp[wpOpsS,go_sem,recoverD,hu,Exit.thenS];apply wpS_seq;unfold b76 Tryz.f76;dsimp only[Option.getD_some,sb1,sb2];apply wpS_region;simp[wpOpsS,go_sem,recoverD,hu,h1,Exit.thenS];refine wpS_cond (t:=false) (by simp[Act.eval,Array.replicate]) ?_;simp only[AT,if_false];exact wpS_of_wp (wp_skip (hq _ rfl))
theorem Jtf{Q:Exit->Act->List Frame->World->Prop}{x y z:Value}{w:World}{c₀:Frame}{cs:List Frame}{t:TypeId}{v:Value}(hu:c₀.mode=.panicking [{v:=.iface t v,recovered:=false}])
  (hq:∀ a',a'.defers=[]->a'.tmps.size=Tryz.f76.ntmps->a'.tmps.getD 0 Go.undef=x->a'.tmps.getD 1 Go.undef=y->a'.tmps.getD 2 Go.undef=z->a'.tmps.getD 3 Go.undef=.iface t v ->
   t76.wp Tryz.prog (λe a w=>Q e a ({c₀ with mode:=.panicking [{v:=.iface t v,recovered:=true}]}::cs) w) a' w) :
  (Code.seq a76 (.seq b76 (.cond (.tmp 8) t76 .skip))).wpS Tryz.prog Q {tmps:=#[x,y,z]++Array.replicate (Tryz.f76.ntmps-3) Go.undef,defers:=[]} (c₀::cs) w:=by
 have h1:=Jwx;apply wpS_seq;unfold a76 Tryz.f76;dsimp only[Option.getD_some,sb1];apply wpS_region;simp[wpOpsS,go_sem,recoverD,hu,Exit.thenS];apply wpS_seq;unfold b76 Tryz.f76;dsimp only[Option.getD_some,sb1,sb2];apply wpS_region;simp[wpOpsS,go_sem,recoverD,h1,Exit.thenS];refine wpS_cond (t:=true) (by simp[Act.eval,Array.replicate]) ?_;simp only[if_true];refine wpS_of_wp (hq _ rfl ?_ ?_ ?_ ?_ ?_)
 ·simp[Tryz.ntmps76]
 all_goals simp
theorem JSA(x y z:Value)(w:World):CallsD Tryz.prog 76 #[x,y,z] .returning w λe u' w'=>e=.returned (.tuple #[])/\u'=.returning/\w'=w:=by refine callsD_of_wpS Tryz.func76 Jwv λc₀ cs hu=>?_;refine Jwy hu λa' ha=>?_;refine⟨ha,.returning,by rw[Jqh c₀ hu],.tuple #[],?_,rfl,rfl,rfl⟩;have hr:Tryz.f76.results=#[]:=rfl;simp[results]
theorem JDG{b0 n:Nat}{cl:Ky}(hcl:VF Tryz.prog cl){K:Ghost}{S S':St}{w:World}{x y z:AV}{vx vy vz v:Value}{t:Nat}{av:AV}{e':KC}(R:Rel K S w)(hI:VL S.heap.length S)(hb0:b0<=S.heap.length)
  (hx:Rep K x vx) (hy:Rep K y vy) (hz:Rep K z vz) (hv:Rep K (.iface t av) v) (hex:Qr b0 cl n Jj3 [(0,x),(1,y),(2,z),(3,.iface t av)] S=some (.normal,e',S')) :
  CallsD Tryz.prog 76 #[vx,vy,vz] (.panicking [{v:=v,recovered:=false}]) w λe u' w'=>e=.returned (.tuple #[])/\u'=.panicking [{v:=v,recovered:=true}]/\∃ K',Rel K' S' w'/\Step K (λn=>n<S.heap.length) w K' w'/\Keeps b0 S S':=by
 simp only[Rep]at hv;obtain⟨u,rfl,hu⟩:=hv;refine callsD_of_wpS Tryz.func76 Jwv λc₀ cs hm=>?_;refine Jtf hm λa' hd hs h0 h1 h2 h3=>?_;have hn:Tryz.f76.ntmps=20:=rfl;have E:EnvRep K (Jj [(0,x),(1,y),(2,z),(3,.iface t av)]) a'.tmps:=by
  intro j q hj;simp only[Jj]at hj;split at hj
  ·rename_i e;subst e;simp only[V]at hj;subst hj;exact⟨O,by rw[h0];exact hx⟩
  split at hj
  ·rename_i e;subst e;simp only[V]at hj;subst hj;exact⟨O,by rw[h1];exact hy⟩
  split at hj
  ·rename_i e;subst e;simp only[V]at hj;subst hj;exact⟨O,by rw[h2];exact hz⟩
  split at hj
  ·rename_i e;subst e;simp only[V]at hj;subst hj;refine⟨O,?_⟩;rw[h3];simp only[Rep];exact⟨u,rfl,hu⟩
  ·cases hj
 refine Jdx hcl Jj3 t76 K S w a' _ _ JDD R hI E O hb0 hex _ ?_;intro a2 w2 K2 en R2 E2 hd2 hs2 hst hk hxr;cases en <;> simp only[Exr]at hxr
 refine⟨hd2.trans hd,.panicking [{v:=.iface t u,recovered:=true}],rfl,.tuple #[],?_,rfl,rfl,K2,R2,hst,hk⟩;have hr:Tryz.f76.results=#[]:=rfl;simp[results]
theorem Jtg{l:List Nat}{e:KC}{t:Nat}(h:t ∉ l):Jj (Ai.keep l e) t=none:=by
 cases hx:Jj (Ai.keep l e) t with
 | none=>rfl
 | some v=>
  exfalso;induction l with
  | nil=>simp[Ai.keep,Jj]at hx
  | cons x l ih=>
   simp only[AS,not_or]at h;simp only[Ai.keep,BY]at hx;cases hy:Jj e x with
   | none=>simp only[hy,B4]at hx;exact ih h.2 hx
   | some u=>
    simp only[hy,A9,Jj]at hx;split at hx
    ·rename_i hxt;exact h.1 hxt.symm
    ·exact ih h.2 hx
theorem JSB{a:Act}{w:World}{Q:Exit->Act->World->Prop}(hd:a.defers=[])
  (hq:∀ u,Q .normal {tmps:=(a.put (some 18) u).tmps,defers:=[{target:=.fn (.func 76) #[a.tmps.getD 2 Go.undef,a.tmps.getD 3 Go.undef,a.tmps.getD 4 Go.undef],args:=#[]}]} w) (hs:a.tmps.size=Tryz.f42.ntmps):d42.wp Tryz.prog Q a w:=by
 have hn:Tryz.f42.ntmps=51:=rfl;unfold d42 Tryz.f42;dsimp only[Option.getD_some,sb1,sb2];refine wp_region ?_;have hmf:∀(fn:Fn) (first cap:Array Value) (w:World),(Instr.makeFunc fn first cap).run Tryz.prog w=.ok (.func fn first cap) w:=λ_ _ _ _=>rfl;simp[wpOps,go_sem];left;left;have h18:18<a.tmps.size:=by rw[hs,hn];omega
 rw[if_pos h18];simp only[Bg,AW,Oper.upon,hd];have:=hq (.func (.func 76) #[] #[a.tmps.getD 2 Go.undef,a.tmps.getD 3 Go.undef,a.tmps.getD 4 Go.undef]);simp only[Act.put,AX]at this;exact this
theorem JjH{P:Program}{K K2:Ghost}{S S2:St}{w w2:World}{a2:Array Value}{e2:KC}{res:List RVar}{g:Func}{r:Res}{S':St}(R:Rel K S w)(hI:VL S.heap.length S)(R2:Rel K2 S2 w2)(E2:EnvRep K2 (Jj e2) a2)
  (hst:Step K (λn=>n<S.heap.length) w K2 w2) (hk:Keeps S.heap.length S S2) (hr:Jp9 res S.heap.length e2 S2=some (r,S')) (hb:JeM P res g.results.toList=true) :
  ∃ v,(results g a2).run P w2=.ok v w2/\Xw K S w r S' (.returned v) w2:=by
 unfold Jp9 at hr;cases hv:QT res e2 S2.heap with
 | none=>rw[hv]at hr;cases hr
 | some rs=>rw[hv]at hr;simp only[V,AP]at hr;obtain⟨rfl,rfl⟩:=hr;obtain⟨u,hu,hrr⟩:=JaQ (P:=P) (g:=g) R2 E2 hb hv;obtain⟨K3,R3,hst3,hkp3,hr3⟩:=JdZ R hI R2 hst hk hrr;exact⟨u,hu,K3,R3,hst3,hkp3,u,rfl,hr3⟩
theorem JEC(x y z:Value)(w:World):(invoke (.fn (.func 76) #[x,y,z]) #[]).run Tryz.prog w=.ok (.enter 76 #[x,y,z]) w:=by simp only[invoke];exact JDF _ _
theorem Jle:ZL Tryz.prog 42 (Jj2 Jk5 Jk6 Jqa Jqb Jj3 Jce):=by
 intro cl hcl vs S r S' hp K w us R hI ha;obtain⟨hl1,n,hn⟩:=Jk3 hp;clear hp;have hul:us.toArray.size=1:=by have:=ha.length;simp only[BZ];omega
 refine .inl ⟨JDE _ _,?_⟩;have hE:=Jis ha Tryz.f42.ntmps;have hnn:Tryz.f42.ntmps=51:=rfl;unfold Jhj at hn;refine calls_of_wp_defers Tryz.func42 JSz ?_;split at hn
 case h_2=>cases hn
 rename_i e0 S0 h0;refine wp_seq (Jdx hcl _ _ K S w _ _ _ JDB R hI hE AR (Ao _) h0 _ ?_);intro a0 w0 K0 en R0 E0 hd0 hs0 hst0 hk0 hx0;cases en <;> simp only[Exr]at hx0
 replace E0:=E0 trivial;replace hs0:=hs0 trivial;try simp only at hd0 hs0
 have hsz0:a0.tmps.size=us.toArray.size+(Tryz.f42.ntmps-us.toArray.size):=by rw[hs0];simp
 split at hn
 case h_2=>cases hn
 rename_i e1 S1 h1;refine wp_seq (Jdx hcl _ _ K0 S0 w0 _ _ _ JDC R0 (hk0.2.2 hI) E0 O hk0.1 h1 _ ?_);intro a1 w1 K1 en R1 E1 hd1 hs1 hst1 hk1 hx1;cases en <;> simp only[Exr]at hx1
 replace E1:=E1 trivial;replace hs1:=hs1 trivial;try simp only at hd1 hs1
 have hk1:=hk0.trans hk1;have hst1:=hst0.trans hst1 (λm hm=>Bh hm hk0.1);split at hn
 case h_3=>cases hn
 ·
  rename_i e2 S2 h2;refine wp_seq (Jdx hcl _ _ K1 S1 w1 _ _ _ Jr1 R1 (hk1.2.2 hI) E1 O hk1.1 h2 _ ?_);intro a2 w2 K2 en R2 E2 hd2 hs2 hst2 hk2 hx2;cases en <;> simp only[Exr]at hx2
  have hst2:=hst1.trans hst2 (λm hm=>Bh hm hk1.1);obtain⟨v,hv,hpost⟩:=JjH R hI R2 (E2 trivial) hst2 (hk1.trans hk2) hn Jqg;have hdf:a2.defers=[]:=hd2.trans (hd1.trans hd0);show Leaves _ _ _ _ a2.defers _ _;rw[hdf];exact⟨v,hv,hpost⟩
 rename_i e2 S2 h2;refine wp_seq (Jdx hcl _ _ K1 S1 w1 _ _ _ Jr1 R1 (hk1.2.2 hI) E1 O hk1.1 h2 _ ?_);intro a2 w2 K2 en R2 E2 hd2 hs2 hst2 hk2 hx2;cases en <;> simp only[Exr]at hx2
 replace E2:=E2 trivial;replace hs2:=hs2 trivial;try simp only at hd2 hs2
 have hk2:=hk1.trans hk2;have hst2:=hst1.trans hst2 (λm hm=>Bh hm hk1.1);have hdf:a2.defers=[]:=hd2.trans (hd1.trans hd0);by_cases hsz:a2.tmps.size=Tryz.f42.ntmps
 case neg=>exact absurd (by rw[hs2,hs1,hsz0];omega) hsz
 refine wp_seq (JSB hdf (λu=>?_) hsz);have E2k:EnvRep K2 (Jj (Ai.keep [1,2,3,4] e2)) (a2.put (some 18) u).tmps:=(E2.keep _).other (Jtg Aj);have hg:∀ t,t≠18->(a2.put (some 18) u).tmps.getD t Go.undef=a2.tmps.getD t Go.undef:=λt ht=>by simp[Act.put,Ne.symm ht]
 generalize hap:({tmps:=(a2.put (some 18) u).tmps,defers:=[{target:=.fn (.func 76) #[a2.tmps.getD 2 Go.undef,a2.tmps.getD 3 Go.undef,a2.tmps.getD 4 Go.undef],args:=#[]}]}:Act)=ap;have hapt:ap.tmps=(a2.put (some 18) u).tmps:=by rw[<- hap]
 have hapd:ap.defers=[{target:=.fn (.func 76) #[a2.tmps.getD 2 Go.undef,a2.tmps.getD 3 Go.undef,a2.tmps.getD 4 Go.undef],args:=#[]}]:=by rw[<- hap]
 rw[<- hapt]at E2k hg;have haps:ap.tmps.size=Tryz.f42.ntmps:=by rw[hapt];simp[Act.put,hsz]
 clear hap;split at hn
 case h_3=>cases hn
 ·
  rename_i e3 S3 h3;refine Jc4 (zs:=[2,3,4]) hcl _ _ K2 S2 w2 ap _ _ JEA Jr2 R2 (hk2.2.2 hI) E2k O hk2.1 h3 _ ?_;intro a3 w3 K3 en R3 E3 hd3 hs3 hst3 hk3 hx3;cases en <;> simp only[Exr]at hx3
  have hst3:=hst2.trans hst3 (λm hm=>Bh hm hk2.1);obtain⟨v,hv,hpost⟩:=JjH R hI R3 (E3 trivial) hst3 (hk2.trans hk3) hn Jqg;show Leaves _ _ _ _ a3.defers _ _;rw[hd3.1,hapd];refine leaves_cons (f:=76) Ag (JEC _ _ _ _) ?_;refine(JSA _ _ _ _).mono ?_;rintro e u' w' ⟨rfl,rfl,rfl⟩;exact⟨v,hv,hpost⟩
 ·
  rename_i tt v e3 S3 h3;split at hn
  case h_2=>cases hn
  rename_i x y z hx hy hz;split at hn
  case h_2=>cases hn
  rename_i e4 S4 h4;refine Jc4 (zs:=[2,3,4]) hcl _ _ K2 S2 w2 ap _ _ JEA Jr2 R2 (hk2.2.2 hI) E2k O hk2.1 h3 _ ?_;intro a3 w3 K3 en R3 E3 hd3 hs3 hst3 hk3 hx3;cases en <;> simp only[Exr]at hx3
  obtain⟨u3,rfl,hu3⟩:=hx3;have hst3':=hst3;have hst3:=hst2.trans hst3 (λm hm=>Bh hm hk2.1);have hk3:=hk2.trans hk3;have hrx:∀(t:Nat) (q:AV),t≠18->Jj e2 t=some q->Rep K3 q (a2.tmps.getD t Go.undef):=λt q _ hq=>Rep.ext hst3'.ext _ _ (E2 t q hq).2;show Leaves _ _ _ _ a3.defers _ _;rw[hd3.1,hapd];refine leaves_cons (f:=76) Ag (JEC _ _ _ _) ?_;refine(JDG hcl R3 (hk3.2.2 hI) hk3.1 (hrx 2 x Aj hx) (hrx 3 y Aj hy) (hrx 4 z Aj hz) hu3 h4).mono ?_;rintro e u' w' ⟨rfl,rfl,K4,R4,hst4,hk4⟩;have hst4':=hst3.trans hst4 (λm hm=>Bh hm hk3.1);have E4:EnvRep K4 (Jj [(2,x),(3,y),(4,z)]) a3.tmps:=by
   have key:∀(t:Nat) (q:AV),t∈[2,3,4]->t≠18->Jj e2 t=some q->t<a3.tmps.size/\Rep K4 q (a3.tmps.getD t Go.undef):=λt q ht h18 hq=>by
    refine⟨?_,?_⟩
    ·rw[hd3.2.1,haps,<- hsz];exact(E2 t q hq).1
    ·rw[hd3.2.2 t ht,hg t h18];exact Rep.ext hst4.ext _ _ (hrx t q h18 hq)
   intro t q hq;simp only[Jj]at hq;split at hq
   ·rename_i he;subst he;simp only[V]at hq;subst hq;exact key 2 x Aj Aj hx
   split at hq
   ·rename_i he;subst he;simp only[V]at hq;subst hq;exact key 3 y Aj Aj hy
   split at hq
   ·rename_i he;subst he;simp only[V]at hq;subst hq;exact key 4 z Aj Aj hz
   ·cases hq
  obtain⟨v,hv,hpost⟩:=JjH R hI R4 E4 hst4' (hk3.trans hk4) hn Jqg;exact⟨v,hv,hpost⟩
end Go.Proofs.YtmeakjgbjldkdaaGreat.Ai
