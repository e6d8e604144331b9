/- A part of what is proved. No condition. -/
import Derived.Test.YtmeakjgbjldkdaaGreatA7
import Derived.Test.YtmeakjgbjldkdaaGreatProg
import Derived.KernelRfl
import Derived.Tactics
import Derived.Tactics2
import Derived.Defers
import Derived.Recover
set_option maxRecDepth 100000
set_option maxHeartbeats 16000000
noncomputable section
namespace Go.Proofs.YtmeakjgbjldkdaaGreat
abbrev CU:=@Array.getElem?_setIfInBounds
end Go.Proofs.YtmeakjgbjldkdaaGreat
namespace Go.Proofs.YtmeakjgbjldkdaaGreat.Ai
open Go
open Tr(pk)
variable {pr:Jz} {F:Nat->Option IFn}
theorem TbU.fieldOf(L:LibW pr F){H:List Blk}{rw:List Nat}{nt:Nat}{cs:List Cls}{U:List (List Nat)}(T:TbU H nt cs U)(s nm:Jk) :
  ∃ rw',Rx rw rw'/\Det pr F 30 [.ptr nt 0,.str s,.str nm] ⟨H,rw⟩ (.ret (JbT (Zi cs nm (KZ cs s)))) ⟨H,rw'⟩:=by
 obtain⟨mb,z,zb,tg,tb,o1,o2,o3,sl,h1,h2⟩:=T;exact JfW L.toLibE h1 s nm
def Jwg(k:Ctr):AV:=.agg (Jw k)
theorem Js5{cs:List Cls}{U:List (List Nat)}{c:Cls}{r:Room}{set:List Jk}{l:List Sm}{q:Nat}{s:Sm}(h:l[q]? = some s):VS cs U c r set (l.drop q)=VS cs U c r set (s::l.drop (q+1)):=by obtain⟨hl,he⟩:=Ac.1 h;rw[AY hl,he]
theorem Jwh:∀{l:List Sm} {s:Sm},Vf l->s∈l->Ja0 s
 | t::l,s,h,hs=>by
  simp only[Vf]at h;rcases AS.1 hs with rfl |hs
  ·exact h.1
  ·exact Jwh h.2 hs
def JaM(set:List Jk):List (Jk×AV):=set.map λn=>(n,.int .i64 1)
theorem Jk2(n:Jk):∀ set:List Jk,Vn (JaM set) n=if n∈set then some (.int .i64 1)else none
 | []=>rfl
 | m::set=>by
  have ih:=Jk2 n set;simp only[JaM,Ap,Vn];by_cases hm:m=n
  ·subst hm;simp
  ·rw[if_neg hm];show Vn (JaM set) n=_;rw[ih];simp[Ne.symm hm]
theorem JoF{n:Jk}:∀{set:List Jk},n ∉ set->ZM (JaM set) n (.int .i64 1)=JaM (set++[n])
 | [],_=>rfl
 | m::set,h=>by simp only[AS,not_or]at h;have ih:=JoF h.2;simp only[JaM,Ap,ZM,Aw];rw[if_neg (Ne.symm h.1)];show(m,AV.int .i64 1)::ZM (JaM set) n (.int .i64 1)=_;rw[ih];rfl
def Jbu:List AV:=[.list 0 .full [],.bool false,.list 0 .full [],.list 0 .full [],.int .i64 0]
section
variable {b0 base ix:Nat} {d:Option Nat} {g:Option (Nat×Bool)} {prev items:List Item} {kp:List Nat} {k:List Fr} {e:KC} {Q:Ex->KC->St->Prop} {S:St} {H M M':List Blk} {n j:Nat} {b:Blk} {rw:List Nat} {re:List Nat}
theorem JSf{m x y:Opd}{es:List (Jk×AV)}{s:Jk}{v:AV}(hlt:n<H.length)(hw:wanted g (Jj e)=some true)(hm:m.val (Jj e)=some (.map (H.length+j)))(hx:x.val (Jj e)=some (.str s))(hy:y.val (Jj e)=some v)(hb:below (H.length+j+1) v=true)(hM:M[j]? = some (.map es))(hs:M.set j (.map (ZM es s v))=M')
  (h:J8 prev re (KD e d .undef) (hp H n b M') base=true/\In pr F b0 Q base (⟨ix,d,g,.l (.mapUpd m x y) re⟩::prev) items kp k (KD e d .undef) ⟨hp H n b M',rw⟩) :
  In pr F b0 Q base prev (⟨ix,d,g,.l (.mapUpd m x y) re⟩::items) kp k e ⟨hp H n b M,rw⟩:=by
 subst hs;obtain⟨hr,hk⟩:=h;refine Jiz hw ?_ hr hk;have e1:=(Vq (b:=b) (L:=M) hlt j).trans hM;simp only[XN,hm,hx,hy,e1,hb,or_true,if_true,YS hlt]
theorem JSg{x:Opd}{es:List (Jk×AV)}(hlt:n<H.length)(hw:wanted g (Jj e)=some true)(hx:x.val (Jj e)=some (.map (H.length+j)))(hM:M[j]? = some (.map es))(h:In pr F b0 Q base (⟨ix,d,g,.q (.lenM x)⟩::prev) items kp k (KD e d (.int .i64 es.length)) ⟨hp H n b M,rw⟩) :
  In pr F b0 Q base prev (⟨ix,d,g,.q (.lenM x)⟩::items) kp k e ⟨hp H n b M,rw⟩:=by
 have e1:=(Vq (b:=b) (L:=M) hlt j).trans hM;exact JbF hw (by simp only[QY,hx,e1,i64]) h
theorem k_o{L:AV->Prop}{zero:AV}{s:Jk}{es:List (Jk×AV)}(hlt:n<H.length)(hM:M[j]? = some (.map es))(h1:∀ v,Vn es s=some v->L v)(h2:Vn es s=none->L zero):LkAt zero false (.map (H.length+j)) (.str s) ⟨hp H n b M,rw⟩ L:=by
 refine⟨?_⟩;have e1:=(Vq (b:=b) (L:=M) hlt j).trans hM;simp only[e1];cases hm:Vn es s with
 | some v=>exact⟨_,rfl,h1 v hm⟩
 | none=>exact⟨_,rfl,h2 hm⟩
end
theorem JDq(L:LibY pr F){cs:List Cls}{U:List (List Nat)}(C:Cst cs U){H H1:List Blk}{rw rw6:List Nat}{nt:Nat}{cn:Jk}{cif:Bool}{csu:Jk}{cab:List Jk}{cfs:List Fld}{cvs:List Xp}{ct:List Ctr}{cms:List Mth}{cat:Int}
  {ps:List Par} {khs:Bool} {done0:List Xp} {kbd:List Sm} {kat:Int} {s1 s4:Nat} {t1 t4:Tag} {vb:AV} {JX:List Blk} {r2:Room} {res:Er Ctr} (hH1:H1=H++[.cells Jbu]) (hlt:H.length<H1.length) (T1:∀ M,TbU (hp H1 H.length (.cells Jbu) M) nt cs U)
  (pan:∀(x:Int×Int) (e:KC) (M:List Blk) (rw':List Nat),res=.error x->Rx rw rw'->fin [.cell 6 (some 5)] H.length (λr' S'=>∃ rw',Rx rw rw'/\r'=KR Jwg res/\S'=⟨H,rw'⟩) (.panic (Xs x)) e ⟨hp H1 H.length (.cells Jbu) M,rw'⟩)
  (_hcl:cfs.length<=64800000) (hnr:nt<H1.length+2) (hKb:Vf kbd) (hr2:RmOk r2) (hv:r2.vars.length+Qj kbd<=90000000) (hw:Qj kbd<=64800000) (hrl:r2.ret.length<=1) (hcn1:canon1 (.list s1 t1 (ps.map Jf))=Kp 8 (ps.map Jf)) (hcn2:canon1 (.list s4 t4 (Ja done0))=Kp 5 (Ja done0)) (hR:Rx rw rw6)
  (hres:res=(VS cs U ⟨cn,cif,csu,cab,cfs,cvs,ct,cms,cat⟩ r2 [] kbd).bind λy=>if y.2.length<cfs.length then Kz 137 kat else .ok ⟨ps,khs,done0,y.1,kat⟩) :
  At pr F H.length (fin [.cell 6 (some 5)] H.length λr' S'=>∃ rw',Rx rw rw'/\r'=KR Jwg res/\S'=⟨H,rw'⟩)
   (IC.loop [0,4,5,6,7,14,15,73,74,75] (Jrt.seq ((IC.cond (.tmp 76) IC.skip (IC.exit 2)).seq ((IC.block 3 (Jru.seq ((Jrv.seq (IC.cond (.tmp 89) (Jrw.seq (IC.exit 3)) IC.skip)).seq (Jrx.seq ((Jry.seq (IC.cond (.tmp 119) Jrz IC.skip)).seq (JrA.seq (JrB.seq (JrC.seq JrD)))))))).seq JrE))))
   [Fr.blk 2,Fr.code (JrF.seq ((JrG.seq (IC.cond (.tmp 158) JrH IC.skip)).seq (JrI.seq IC.ret)))]
   [(0,.ptr nt 0),(4,.ptr (H1.length+0) 0),(5,.ptr (H1.length+1) 0),(6,.ptr H.length 0),(7,.ptr (H1.length+2) 0),(14,.map (H1.length+(JX.length+3))),(15,.list 0 .full []),(73,Kp 7 (Jg kbd)),(74,.int .i64 ((Jg kbd).length:Int)),(75,.int .i64 0)]
   ⟨hp H1 H.length (.cells Jbu) (.cells (Jc ⟨cn,cif,csu,cab,cfs,cvs,ct,cms,cat⟩)::.cells [.list s1 t1 (ps.map Jf),.bool khs,.list s4 t4 (Ja done0),vb,.int .i64 kat]::.cells (JC nt r2)::(JX++[.map []])),rw6⟩:=by
 have hm:=L.hm;have hsl:(Jg kbd).length=kbd.length:=by rw[Qh,Ak]
 have hwl:=Jjy kbd;refine JB hm (λmm e S'=>∃(q:Nat) (done:List Sm) (set:List Jk) (r3:Room) (J:List Blk) (lv:AV) (rw3:List Nat),S'=⟨hp H1 H.length (.cells Jbu) (.cells (Jc ⟨cn,cif,csu,cab,cfs,cvs,ct,cms,cat⟩)::.cells [.list s1 t1 (ps.map Jf),.bool khs,.list s4 t4 (Ja done0),vb,.int .i64 kat]::.cells (JC nt r3)::J),rw3⟩/\J[JX.length]? = some (.map (JaM set))/\q<=kbd.length/\done.length=q/\set.length<=q/\RmOk r3/\r3.vars.length+Qj (kbd.drop q)<=90000000/\r3.ret.length<=1/\Lst rw6 7 lv (Jg done) rw3/\Rx rw6 rw3 /\
  (VS cs U ⟨cn,cif,csu,cab,cfs,cvs,ct,cms,cat⟩ r2 [] kbd=(VS cs U ⟨cn,cif,csu,cab,cfs,cvs,ct,cms,cat⟩ r3 set (kbd.drop q)).bind λy=>.ok (done++y.1,y.2))/\mm=kbd.length-q /\
  e=[(0,.ptr nt 0),(4,.ptr (H1.length+0) 0),(5,.ptr (H1.length+1) 0),(6,.ptr H.length 0),(7,.ptr (H1.length+2) 0),(14,.map (H1.length+(JX.length+3))),(15,lv),(73,Kp 7 (Jg kbd)),(74,.int .i64 ((Jg kbd).length:Int)),(75,.int .i64 q)]) ?_ (m:=kbd.length) ⟨0,[],[],r2,_,_,rw6,rfl,by simp[JaM],O,rfl,Ao 0,hr2,by rw[AA];exact hv,hrl,Lst.nil,Rx.rfl,?_,rfl,rfl⟩
 rotate_left
 ·simp only[AA,Au];cases VS cs U ⟨cn,cif,csu,cab,cfs,cvs,ct,cms,cat⟩ r2 [] kbd <;> rfl
 rintro mm e S' ⟨q,done,set,r3,J,lv,rw3,rfl,hmp,hq0,hdl,hst,hr3,hv3,hrl3,hli,hR3,hod,rfl,rfl⟩;have hdl2:(Jg done).length=done.length:=by rw[Qh,Ak]
 by_cases hq:q<kbd.length
 ·obtain⟨s,hs⟩:∃ s,kbd[q]? = some s:=⟨_,Ab hq⟩
  have hsr:(Jg kbd)[q]? = some (Jp s):=by rw[Qh,Ax,hs];rfl
  have hl7:Kp 7 (Jg kbd)=.list 7 .dead (Jg kbd):=Kf (i:=q) O;rw[Js5 hs]at hod;rw[JkT hs]at hv3;have hsm:=Aq hs;have hws:=Jjx hsm;have hok:=Jwh hKb hsm;rw[hl7];obtain⟨kind,n,ty,exs,b,e,a⟩:=s;rw[VS]at hod;simp only[Ja0]at hok;obtain⟨hk,-,hex,-,-⟩:=hok;have hmj:=λ(J':List Blk)=>Vj (Y:=J') hmp;have hS:=Jdr L C kbd hKb _ hsm;by_cases hA:kind≠[102,105,101,108,100]\/opX (nth exs 0)≠[116,104,105,115]
  ·rw[if_pos hA]at hod;have hgo:∀ P:Prop,(kind≠[102,105,101,108,100]->P)->(kind=[102,105,101,108,100]->(∃ o y,exs=[o,y])->opX (nth exs 0)≠[116,104,105,115]->P)->P:=λP h1 h2=>by
    by_cases hkf:kind=[102,105,101,108,100]
    ·subst hkf;refine h2 rfl ?_ (hA.resolve_left λh=>h rfl);unfold Jd2 at hk;rcases hk with⟨q,-⟩ |⟨q,-⟩ |⟨-,-,-,q,-⟩ |⟨q,-⟩ |⟨q,-⟩ |⟨q,-⟩ |⟨q,-⟩ |⟨q,-⟩
     ·exact absurd q Aj
     ·exact absurd q Aj
     ·exact q
     ·exact absurd q Aj
     ·exact absurd q Aj
     ·exact absurd q Aj
     ·exact absurd q Aj
     ·exact absurd q Aj
    ·exact h1 hkf
   refine hgo _ (λhkf=>?_) (λhkf hxy hth=>?_)
   ·refine' JM;obtain⟨hinv,rw4,hR4,hd⟩:=hS _ rw3 (H1.length+2) nt r3 (T1 (.cells (Jc ⟨cn,cif,csu,cab,cfs,cvs,ct,cms,cat⟩)::.cells [.list s1 t1 (ps.map Jf),.bool khs,.list s4 t4 (Ja done0),vb,.int .i64 kat]::.cells (JC nt r3)::(J++[.cells (Jp (.mk kind n ty exs b e a))]))) (Jem hlt rfl) hnr hr3 O O hrl3;cases hc:XD cs U r3 (.mk kind n ty exs b e a)with
    | error c=>rw[hc]at hd hod;rw[hod]at hres;refine KV hd rfl rfl rfl ?_;exact KM (pan c _ _ _ hres ((hR.trans hR3).trans hR4))
    | ok y=>
     obtain⟨s2,r4⟩:=y;rw[hc]at hd hod;obtain⟨hr4,hv4,hrl4⟩:=hinv _ hc;simp only at hr4 hv4 hrl4;have hset:Jcj (hp H1 H.length (.cells Jbu) (.cells (Jc ⟨cn,cif,csu,cab,cfs,cvs,ct,cms,cat⟩)::.cells [.list s1 t1 (ps.map Jf),.bool khs,.list s4 t4 (Ja done0),vb,.int .i64 kat]::.cells (JC nt r3)::(J++[.cells (Jp (.mk kind n ty exs b e a))]))) (H1.length+2) nt (.ok (s2,r4))=hp H1 H.length (.cells Jbu) (.cells (Jc ⟨cn,cif,csu,cab,cfs,cvs,ct,cms,cat⟩)::.cells [.list s1 t1 (ps.map Jf),.bool khs,.list s4 t4 (Ja done0),vb,.int .i64 kat]::.cells (JC nt r4)::(J++[.cells (Jp (.mk kind n ty exs b e a))])):=F2
     rw[hset]at hd;refine Je rfl rfl rfl ?_;refine Ks hd ?_;simp only[SmR];clear hd hinv hset;replace hli:=hli.ext hR4;replace hR3:=hR3.trans hR4;refine JQ ?_;refine Qp ?_;refine Q1 rfl (vs:=[.agg (Jp s2)]) rfl ?_;refine Z2 (Kx s2) ?_;refine' JM;refine JT ?_;refine JW rfl rfl rfl ?_;refine QB hli hR3 AH AH O ?_;intro l4 rw7 hl4 hR7;refine JQ ?_;refine' JM;refine⟨kbd.length-(q+1),O,q+1,done++[s2],set,r4,_,l4,rw7,rfl,hmj _,O,Fu,O,hr4,by have:=Jh6 (.mk kind n ty exs b e a);omega,by rw[hrl4];exact hrl3,?_,hR7,?_,rfl,F3⟩
     ·rw[Qh,An,<- Qh];exact hl4
     ·rw[hod];show((VS cs U ⟨cn,cif,csu,cab,cfs,cvs,ct,cms,cat⟩ r4 set (kbd.drop (q+1))).bind λy=>.ok (s2::y.1,y.2)).bind _=_;cases VS cs U ⟨cn,cif,csu,cab,cfs,cvs,ct,cms,cat⟩ r4 set (kbd.drop (q+1)) <;> simp[Except.bind]
   ·subst hkf;obtain⟨o,y,rfl⟩:=hxy;obtain⟨op0,n0,l0,ty0,a0⟩:=o;have hx0:(Ja [.mk op0 n0 l0 ty0 a0,y])[0]? = some (Jb (.mk op0 n0 l0 ty0 a0)):=rfl;have hxl:(Ja [.mk op0 n0 l0 ty0 a0,y]).length=2:=rfl;replace hth:op0≠[116,104,105,115]:=hth;refine' JM;obtain⟨hinv,rw4,hR4,hd⟩:=hS _ rw3 (H1.length+2) nt r3 (T1 (.cells (Jc ⟨cn,cif,csu,cab,cfs,cvs,ct,cms,cat⟩)::.cells [.list s1 t1 (ps.map Jf),.bool khs,.list s4 t4 (Ja done0),vb,.int .i64 kat]::.cells (JC nt r3)::(J++[.cells (Jp (.mk [102,105,101,108,100] n ty [.mk op0 n0 l0 ty0 a0,y] b e a))]))) (Jem hlt rfl) hnr hr3 O O hrl3;cases hc:XD cs U r3 (.mk [102,105,101,108,100] n ty [.mk op0 n0 l0 ty0 a0,y] b e a)with
    | error c=>rw[hc]at hd hod;rw[hod]at hres;refine KV hd rfl rfl rfl ?_;exact KM (pan c _ _ _ hres ((hR.trans hR3).trans hR4))
    | ok y=>
     obtain⟨s2,r4⟩:=y;rw[hc]at hd hod;obtain⟨hr4,hv4,hrl4⟩:=hinv _ hc;simp only at hr4 hv4 hrl4;have hset:Jcj (hp H1 H.length (.cells Jbu) (.cells (Jc ⟨cn,cif,csu,cab,cfs,cvs,ct,cms,cat⟩)::.cells [.list s1 t1 (ps.map Jf),.bool khs,.list s4 t4 (Ja done0),vb,.int .i64 kat]::.cells (JC nt r3)::(J++[.cells (Jp (.mk [102,105,101,108,100] n ty [.mk op0 n0 l0 ty0 a0,y] b e a))]))) (H1.length+2) nt (.ok (s2,r4))=hp H1 H.length (.cells Jbu) (.cells (Jc ⟨cn,cif,csu,cab,cfs,cvs,ct,cms,cat⟩)::.cells [.list s1 t1 (ps.map Jf),.bool khs,.list s4 t4 (Ja done0),vb,.int .i64 kat]::.cells (JC nt r4)::(J++[.cells (Jp (.mk [102,105,101,108,100] n ty [.mk op0 n0 l0 ty0 a0,y] b e a))])):=F2
     rw[hset]at hd;refine Je rfl rfl rfl ?_;refine Ks hd ?_;simp only[SmR];clear hd hinv hset;replace hli:=hli.ext hR4;replace hR3:=hR3.trans hR4;refine JQ ?_;refine Qp ?_;refine Q1 rfl (vs:=[.agg (Jp s2)]) rfl ?_;refine Z2 (Kx s2) ?_;refine' JM;refine JT ?_;refine JW rfl rfl rfl ?_;refine QB hli hR3 AH AH O ?_;intro l4 rw7 hl4 hR7;refine JQ ?_;refine' JM;refine⟨kbd.length-(q+1),O,q+1,done++[s2],set,r4,_,l4,rw7,rfl,hmj _,O,Fu,O,hr4,by have:=Jh6 (.mk [102,105,101,108,100] n ty [.mk op0 n0 l0 ty0 a0,y] b e a);omega,by rw[hrl4];exact hrl3,?_,hR7,?_,rfl,F3⟩
     ·rw[Qh,An,<- Qh];exact hl4
     ·rw[hod];show((VS cs U ⟨cn,cif,csu,cab,cfs,cvs,ct,cms,cat⟩ r4 set (kbd.drop (q+1))).bind λy=>.ok (s2::y.1,y.2)).bind _=_;cases VS cs U ⟨cn,cif,csu,cab,cfs,cvs,ct,cms,cat⟩ r4 set (kbd.drop (q+1)) <;> simp[Except.bind]
  ·have hkf:kind=[102,105,101,108,100]:=by
    by_cases hkf:kind=[102,105,101,108,100]
    ·exact hkf
    ·exact absurd (.inl hkf) hA
   have hth:opX (nth exs 0)=[116,104,105,115]:=by
    by_cases hth:opX (nth exs 0)=[116,104,105,115]
    ·exact hth
    ·exact absurd (.inr hth) hA
   rw[if_neg hA]at hod;subst hkf;have hxy:∃ o y,exs=[o,y]:=by
    unfold Jd2 at hk;rcases hk with⟨q,-⟩ |⟨q,-⟩ |⟨-,-,-,q,-⟩ |⟨q,-⟩ |⟨q,-⟩ |⟨q,-⟩ |⟨q,-⟩ |⟨q,-⟩
    ·exact absurd q Aj
    ·exact absurd q Aj
    ·exact q
    ·exact absurd q Aj
    ·exact absurd q Aj
    ·exact absurd q Aj
    ·exact absurd q Aj
    ·exact absurd q Aj
   obtain⟨o,y,rfl⟩:=hxy;obtain⟨op0,n0,l0,ty0,a0⟩:=o;have hx0:(Ja [.mk op0 n0 l0 ty0 a0,y])[0]? = some (Jb (.mk op0 n0 l0 ty0 a0)):=rfl;have hx1:(Ja [.mk op0 n0 l0 ty0 a0,y])[1]? = some (Jb y):=rfl;have hxl:(Ja [.mk op0 n0 l0 ty0 a0,y]).length=2:=rfl;have hwx:=JbO _ hex;have hve:=Je3 [.mk op0 n0 l0 ty0 a0,y];simp only[KP,and_true]at hwx;simp only[KE,AE]at hve;have hwy:=hwx.2;simp only[wSm]at hws hv3;replace hth:op0=[116,104,105,115]:=hth;subst hth;refine' JM;obtain⟨rw4,hR4,hd⟩:=TbU.fieldOf L.toLibW (T1 (.cells (Jc ⟨cn,cif,csu,cab,cfs,cvs,ct,cms,cat⟩)::.cells [.list s1 t1 (ps.map Jf),.bool khs,.list s4 t4 (Ja done0),vb,.int .i64 kat]::.cells (JC nt r3)::(J++[.cells (Jp (.mk [102,105,101,108,100] n ty [.mk [116,104,105,115] n0 l0 ty0 a0,y] b e a))]++[.cells (Jn JlV)]))) cn n (rw:=rw3);refine Je rfl rfl rfl ?_;refine Ks hd ?_;clear hd;replace hli:=hli.ext hR4;replace hR3:=hR3.trans hR4;cases hf:Zi cs n (KZ cs cn)with
   | none=>rw[hf]at hod;replace hod:VS cs U ⟨cn,cif,csu,cab,cfs,cvs,ct,cms,cat⟩ r2 [] kbd=.error (137,a):=hod;rw[hod]at hres;simp only[JbT,B4,BR,BU];refine JQ ?_;refine' JM;refine KV (Kr L.toLibW _ _ _ _) rfl rfl rfl ?_;exact KM (pan _ _ _ _ hres (hR.trans hR3))
   | some of=>
    obtain⟨o,f⟩:=of;have hX:=Jl4 C.ok hf;rw[hf]at hod;simp only at hod;obtain⟨fn,⟨k2,n2,u2,e2,p2,b2⟩,ff,fa⟩:=f;simp only[JbT,A9,Bc,Bj];refine JQ ?_;by_cases hoc:o=cn
    ·replace hoc:=hoc.symm;subst hoc;have hJ2:(J++[.cells (Jp (.mk [102,105,101,108,100] n ty [.mk [116,104,105,115] n0 l0 ty0 a0,y] b e a))]++[.cells (Jn ⟨fn,.mk k2 n2 u2 e2 p2 b2,ff,fa⟩)])[JX.length]? = some (.map (JaM set)):=Vj (Vj hmp);have hlk:=Jk2 n set;by_cases hns:n∈set
     ·rw[if_pos (.inr (by simpa using hns))]at hod;replace hod:VS cs U ⟨cn,cif,csu,cab,cfs,cvs,ct,cms,cat⟩ r2 [] kbd=.error (137,a):=hod;rw[hod]at hres;rw[if_pos hns]at hlk;refine' JM;refine JfG ?_;refine Jaw rfl rfl rfl ?_;refine k_o (es:=JaM set) hlt hJ2 (λv hv=>?_) (λhv=>by rw[hlk]at hv;cases hv);rw[hlk]at hv;cases hv;refine' JM;refine KV (Kr L.toLibW _ _ _ _) rfl rfl rfl ?_;exact KM (pan _ _ _ _ hres (hR.trans hR3))
     ·have hnn:¬(cn≠cn\/set.contains n=true):=λh=>h.elim (λh=>h rfl) (λh=>hns EC);replace hod:VS cs U ⟨cn,cif,csu,cab,cfs,cvs,ct,cms,cat⟩ r2 [] kbd=((QQ cs U r3 y (.mk k2 n2 u2 e2 p2 b2)).bind λx=>(VS cs U ⟨cn,cif,csu,cab,cfs,cvs,ct,cms,cat⟩ r3 (set++[n]) (kbd.drop (q+1))).bind λz=>.ok (.mk [102,105,101,108,100] n ty [XC (.mk [116,104,105,115] n0 l0 ty0 a0) (Yr cn),x] b e a::z.1,z.2)).bind λz=>.ok (done++z.1,z.2):=by rw[hod,if_neg hnn];rfl
      rw[if_neg hns]at hlk;refine' JM;refine JfG ?_;refine Jaw rfl rfl rfl ?_;refine k_o (es:=JaM set) hlt hJ2 (λv hv=>by rw[hlk]at hv;cases hv) (λhv=>?_);clear hv;refine' JM;refine JfG ?_;refine Jaw rfl rfl rfl ?_;refine k_o (es:=JaM set) hlt hJ2 (λv hv=>by rw[hlk]at hv;cases hv) (λhv=>?_);clear hv;refine' JM;have hjl:JX.length<J.length:=(Ac.1 hmp).1;obtain⟨J2,hJe⟩:∃ J2,J2=J.set JX.length (.map (JaM (set++[n]))):=⟨_,rfl⟩
      have hJl:J.length=J2.length:=by rw[hJe,List.length_set]
      have hmp2:J2[JX.length]? = some (.map (JaM (set++[n]))):=by rw[hJe,A3 hjl]
      have hst2:(J++[Blk.cells (Jp (.mk [102,105,101,108,100] n ty [.mk [116,104,105,115] n0 l0 ty0 a0,y] b e a))]++[Blk.cells (Jn ⟨fn,.mk k2 n2 u2 e2 p2 b2,ff,fa⟩)]).set JX.length (.map (ZM (JaM set) n (.int .i64 (0+1))))=J2++[Blk.cells (Jp (.mk [102,105,101,108,100] n ty [.mk [116,104,105,115] n0 l0 ty0 a0,y] b e a))]++[Blk.cells (Jn ⟨fn,.mk k2 n2 u2 e2 p2 b2,ff,fa⟩)]:=by rw[CL _ _ (by simp only[AG];omega),CL _ _ hjl,show((0:Int)+1)=1 from rfl,JoF hns,hJe]
      refine Jkz ?_;refine JSf (j:=JX.length+3) (es:=JaM set) (M':=_::_::_::(J2++[Blk.cells (Jp (.mk [102,105,101,108,100] n ty [.mk [116,104,105,115] n0 l0 ty0 a0,y] b e a))]++[Blk.cells (Jn ⟨fn,.mk k2 n2 u2 e2 p2 b2,ff,fa⟩)])) hlt rfl rfl rfl rfl rfl hJ2 (congrArg (λz=>_::_::_::z) hst2) ?_;rw[show(J++[Blk.cells (Jp (.mk [102,105,101,108,100] n ty [.mk [116,104,105,115] n0 l0 ty0 a0,y] b e a))]).length=(J2++[Blk.cells (Jp (.mk [102,105,101,108,100] n ty [.mk [116,104,105,115] n0 l0 ty0 a0,y] b e a))]).length by simp only[AG,Cu,hJl]];try rw[hJl]
      clear hst2 hJe hJ2 hlk hmj hmp hjl;have hmj:=λ(J':List Blk)=>Vj (Y:=J') hmp2;have hb17a:(Blk.cells (Jc ⟨cn,cif,csu,cab,cfs,cvs,ct,cms,cat⟩)::Blk.cells [.list s1 t1 (ps.map Jf),.bool khs,.list s4 t4 (Ja done0),vb,.int .i64 kat]::Blk.cells (JC nt r3)::(J2++[Blk.cells (Jp (.mk [102,105,101,108,100] n ty [.mk [116,104,105,115] n0 l0 ty0 a0,y] b e a))]++[Blk.cells (Jn ⟨fn,.mk k2 n2 u2 e2 p2 b2,ff,fa⟩)]++[Blk.cells [.str [],.str [],.list 0 .full [],.list 0 .full [],.int .i64 0]]))[J2.length+3]? = some (Blk.cells (Jp (.mk [102,105,101,108,100] n ty [.mk [116,104,105,115] n0 l0 ty0 a0,y] b e a))):=Ag;have hb18a:(Blk.cells (Jc ⟨cn,cif,csu,cab,cfs,cvs,ct,cms,cat⟩)::Blk.cells [.list s1 t1 (ps.map Jf),.bool khs,.list s4 t4 (Ja done0),vb,.int .i64 kat]::Blk.cells (JC nt r3)::(J2++[Blk.cells (Jp (.mk [102,105,101,108,100] n ty [.mk [116,104,105,115] n0 l0 ty0 a0,y] b e a))]++[Blk.cells (Jn ⟨fn,.mk k2 n2 u2 e2 p2 b2,ff,fa⟩)]++[Blk.cells [.str [],.str [],.list 0 .full [],.list 0 .full [],.int .i64 0]]))[(J2++[Blk.cells (Jp (.mk [102,105,101,108,100] n ty [.mk [116,104,105,115] n0 l0 ty0 a0,y] b e a))]).length+3]? = some (Blk.cells (Jn ⟨fn,.mk k2 n2 u2 e2 p2 b2,ff,fa⟩)):=Ag;have hb17b:(Blk.cells (Jc ⟨cn,cif,csu,cab,cfs,cvs,ct,cms,cat⟩)::Blk.cells [.list s1 t1 (ps.map Jf),.bool khs,.list s4 t4 (Ja done0),vb,.int .i64 kat]::Blk.cells (JC nt r3)::(J2++[Blk.cells (Jp (.mk [102,105,101,108,100] n ty [.mk [116,104,105,115] n0 l0 ty0 a0,y] b e a))]++[Blk.cells (Jn ⟨fn,.mk k2 n2 u2 e2 p2 b2,ff,fa⟩)]++[Blk.cells (Jb (XC (.mk [116,104,105,115] n0 l0 ty0 a0) (Yr cn)))]))[J2.length+3]? = some (Blk.cells (Jp (.mk [102,105,101,108,100] n ty [.mk [116,104,105,115] n0 l0 ty0 a0,y] b e a))):=Ag;have hb18b:(Blk.cells (Jc ⟨cn,cif,csu,cab,cfs,cvs,ct,cms,cat⟩)::Blk.cells [.list s1 t1 (ps.map Jf),.bool khs,.list s4 t4 (Ja done0),vb,.int .i64 kat]::Blk.cells (JC nt r3)::(J2++[Blk.cells (Jp (.mk [102,105,101,108,100] n ty [.mk [116,104,105,115] n0 l0 ty0 a0,y] b e a))]++[Blk.cells (Jn ⟨fn,.mk k2 n2 u2 e2 p2 b2,ff,fa⟩)]++[Blk.cells (Jb (XC (.mk [116,104,105,115] n0 l0 ty0 a0) (Yr cn)))]))[(J2++[Blk.cells (Jp (.mk [102,105,101,108,100] n ty [.mk [116,104,105,115] n0 l0 ty0 a0,y] b e a))]).length+3]? = some (Blk.cells (Jn ⟨fn,.mk k2 n2 u2 e2 p2 b2,ff,fa⟩)):=Ag;have htd:TxOk pr F 182 [.agg (Jb (.mk [116,104,105,115] n0 l0 ty0 a0)),.agg (Jl (Yr cn))] (.agg (Jb (XC (.mk [116,104,105,115] n0 l0 ty0 a0) (Yr cn)))):=YK L.toLibW _ _;refine JQ ?_;refine' JM;refine Je rfl rfl rfl ?_;refine JAG htd (JlR hlt) ?_;intro rw5 hR5;replace hli:=hli.ext hR5;replace hR3:=hR3.trans hR5;refine JQ ?_;refine' JM;obtain⟨J3,hJ3⟩:∃ J3,J2++[Blk.cells (Jp (.mk [102,105,101,108,100] n ty [.mk [116,104,105,115] n0 l0 ty0 a0,y] b e a))]++[Blk.cells (Jn ⟨fn,.mk k2 n2 u2 e2 p2 b2,ff,fa⟩)]++[Blk.cells (Jb (XC (.mk [116,104,105,115] n0 l0 ty0 a0) (Yr cn)))]=J3:=⟨_,rfl⟩
      have hb21b:(Blk.cells (Jc ⟨cn,cif,csu,cab,cfs,cvs,ct,cms,cat⟩)::Blk.cells [.list s1 t1 (ps.map Jf),.bool khs,.list s4 t4 (Ja done0),vb,.int .i64 kat]::Blk.cells (JC nt r3)::J3)[(J2++[Blk.cells (Jp (.mk [102,105,101,108,100] n ty [.mk [116,104,105,115] n0 l0 ty0 a0,y] b e a))]++[Blk.cells (Jn ⟨fn,.mk k2 n2 u2 e2 p2 b2,ff,fa⟩)]).length+3]? = some (Blk.cells (Jb (XC (.mk [116,104,105,115] n0 l0 ty0 a0) (Yr cn)))):=by rw[<- hJ3];simp
      have hmp3:J3[JX.length]? = some (.map (JaM (set++[n]))):=by rw[<- hJ3];exact Vj (Vj (Vj hmp2))
      have hjl3:JX.length<J2.length:=(Ac.1 hmp2).1;rw[hJ3]at hb17b hb18b |-;have hX3:J3[J2.length]? = some (Blk.cells (Jp (.mk [102,105,101,108,100] n ty [.mk [116,104,105,115] n0 l0 ty0 a0,y] b e a))):=hb17b;clear hJ3 hb17a hb18a hb18b hmp2;obtain⟨j21,hj21⟩:∃ j,(J2++[Blk.cells (Jp (.mk [102,105,101,108,100] n ty [.mk [116,104,105,115] n0 l0 ty0 a0,y] b e a))]++[Blk.cells (Jn ⟨fn,.mk k2 n2 u2 e2 p2 b2,ff,fa⟩)]).length=j:=⟨_,rfl⟩
      obtain⟨j18,hj18⟩:∃ j,(J2++[Blk.cells (Jp (.mk [102,105,101,108,100] n ty [.mk [116,104,105,115] n0 l0 ty0 a0,y] b e a))]).length=j:=⟨_,rfl⟩
      obtain⟨j17,hj17⟩:∃ j,J2.length=j:=⟨_,rfl⟩
      rw[hj21]at hb21b |-;rw[hj18];rw[hj17]at hb17b hX3 hjl3 |-;clear hj21 hj18 hj17;obtain⟨rw6',hR6,hd⟩:=YP L C (x:=y) (t:=.mk k2 n2 u2 e2 p2 b2) (rb:=H1.length+2) (T1 (Blk.cells (Jc ⟨cn,cif,csu,cab,cfs,cvs,ct,cms,cat⟩)::Blk.cells [.list s1 t1 (ps.map Jf),.bool khs,.list s4 t4 (Ja done0),vb,.int .i64 kat]::Blk.cells (JC nt r3)::J3)) (Jem hlt rfl) hr3 O O hwy hX (rw:=rw5);refine Kk hd rfl rfl rfl ?_ ?_
      ·intro c hc;rw[hc]at hod;replace hod:VS cs U ⟨cn,cif,csu,cab,cfs,cvs,ct,cms,cat⟩ r2 [] kbd=.error c:=hod;rw[hod]at hres;exact KM (pan c _ _ _ hres ((hR.trans hR3).trans hR6))
      intro x' v hvx hc;change v=.agg (Jb x')at hvx;subst hvx;rw[hc]at hod;clear hd;replace hli:=hli.ext hR6;replace hR3:=hR3.trans hR6;refine JQ ?_;refine Qp ?_;refine Q1 rfl (vs:=[.agg (Jb (XC (.mk [116,104,105,115] n0 l0 ty0 a0) (Yr cn))),.agg (Jb x')]) rfl ?_;refine JTs (JG _) (JG x') ?_;obtain⟨J4,hJ4⟩:∃ J4,J3.set j17 (Blk.cells [.str [102,105,101,108,100],.str n,Kp 6 (Jo ty),.list 5 .full [Jb (XC (.mk [116,104,105,115] n0 l0 ty0 a0) (Yr cn)),Jb x'],Kp 7 (Jg b),Kp 7 (Jg e),.int .i64 a])=J4:=⟨_,rfl⟩
      have hX4:(Blk.cells (Jc ⟨cn,cif,csu,cab,cfs,cvs,ct,cms,cat⟩)::Blk.cells [.list s1 t1 (ps.map Jf),.bool khs,.list s4 t4 (Ja done0),vb,.int .i64 kat]::Blk.cells (JC nt r3)::J4)[j17+3]? = some (Blk.cells [.str [102,105,101,108,100],.str n,Kp 6 (Jo ty),.list 5 .full [Jb (XC (.mk [116,104,105,115] n0 l0 ty0 a0) (Yr cn)),Jb x'],Kp 7 (Jg b),Kp 7 (Jg e),.int .i64 a]):=by show J4[j17]? = _;rw[<- hJ4,A3 (Ac.1 hX3).1]
      have hmp4:J4[JX.length]? = some (.map (JaM (set++[n]))):=by rw[<- hJ4,Bf O,hmp3]
      have hs4:(Blk.cells (Jc ⟨cn,cif,csu,cab,cfs,cvs,ct,cms,cat⟩)::Blk.cells [.list s1 t1 (ps.map Jf),.bool khs,.list s4 t4 (Ja done0),vb,.int .i64 kat]::Blk.cells (JC nt r3)::J3).set (j17+3) (Blk.cells [.str [102,105,101,108,100],.str n,Kp 6 (Jo ty),.list 5 .full [Jb (XC (.mk [116,104,105,115] n0 l0 ty0 a0) (Yr cn)),Jb x'],Kp 7 (Jg b),Kp 7 (Jg e),.int .i64 a])=Blk.cells (Jc ⟨cn,cif,csu,cab,cfs,cvs,ct,cms,cat⟩)::Blk.cells [.list s1 t1 (ps.map Jf),.bool khs,.list s4 t4 (Ja done0),vb,.int .i64 kat]::Blk.cells (JC nt r3)::J4:=congrArg (λz=>_::_::_::z) hJ4;refine JbF rfl rfl ?_;refine Vh ?_;refine VG rfl rfl rfl ?_;refine JcI ?_;refine zsO ?_ hlt hb17b ⟨rfl,rfl,Ba rfl⟩ rfl hs4 (.inl O);refine JQ ?_;refine' JM;clear hJ4 hX3 hmp3;have hcX:Jh [.str [102,105,101,108,100],.str n,Kp 6 (Jo ty),.list 5 .full [Jb (XC (.mk [116,104,105,115] n0 l0 ty0 a0) (Yr cn)),Jb x'],Kp 7 (Jg b),Kp 7 (Jg e),.int .i64 a]=Jp (.mk [102,105,101,108,100] n ty [XC (.mk [116,104,105,115] n0 l0 ty0 a0) (Yr cn),x'] b e a):=by simp only[Jh,Ap,AC,Jq,Jp];rfl
      rw[hcX];refine Qp ?_;refine Q1 rfl (vs:=[.agg (Jp (.mk [102,105,101,108,100] n ty [XC (.mk [116,104,105,115] n0 l0 ty0 a0) (Yr cn),x'] b e a))]) rfl ?_;refine Z2 (Kx _) ?_;refine JT ?_;refine JW rfl rfl rfl ?_;refine QB hli hR3 AH AH O ?_;intro l4 rw7 hl4 hR7;refine JQ ?_;refine' JM;refine⟨kbd.length-(q+1),O,q+1,done++[(.mk [102,105,101,108,100] n ty [XC (.mk [116,104,105,115] n0 l0 ty0 a0) (Yr cn),x'] b e a)],set++[n],r3,_,l4,rw7,rfl,hmp4,O,Fu,by simp only[AG,Cu];omega,hr3,O,hrl3,?_,hR7,?_,rfl,F3⟩
      ·rw[Qh,An,<- Qh];exact hl4
      ·rw[hod];show((VS cs U ⟨cn,cif,csu,cab,cfs,cvs,ct,cms,cat⟩ r3 (set++[n]) (kbd.drop (q+1))).bind λz=>.ok ((.mk [102,105,101,108,100] n ty [XC (.mk [116,104,105,115] n0 l0 ty0 a0) (Yr cn),x'] b e a:Sm)::z.1,z.2)).bind _=_;cases VS cs U ⟨cn,cif,csu,cab,cfs,cvs,ct,cms,cat⟩ r3 (set++[n]) (kbd.drop (q+1)) <;> simp[Except.bind]
    ·rw[if_pos (.inl hoc)]at hod;replace hod:VS cs U ⟨cn,cif,csu,cab,cfs,cvs,ct,cms,cat⟩ r2 [] kbd=.error (137,a):=hod;rw[hod]at hres;refine' JM;refine KV (Kr L.toLibW _ _ _ _) rfl rfl rfl ?_;exact KM (pan _ _ _ _ hres (hR.trans hR3))
 ·rw[AU O,VS]at hod;replace hod:VS cs U ⟨cn,cif,csu,cab,cfs,cvs,ct,cms,cat⟩ r2 [] kbd=.ok (done++[],set):=hod;rw[Ar]at hod;rw[hod]at hres;replace hres:res=if set.length<cfs.length then Kz 137 kat else .ok ⟨ps,khs,done0,done,kat⟩:=hres
  have hcn3:=hli.isL.canon;obtain⟨s5,t5,rfl,-,-⟩:=hli.isL.ex;have hml:(Blk.cells (Jc ⟨cn,cif,csu,cab,cfs,cvs,ct,cms,cat⟩)::Blk.cells [.list s1 t1 (ps.map Jf),.bool khs,.list s4 t4 (Ja done0),vb,.int .i64 kat]::Blk.cells (JC nt r3)::J)[JX.length+3]? = some (.map (JaM set)):=hmp;have hcc:Jh [.list s1 t1 (ps.map Jf),.bool khs,.list s4 t4 (Ja done0),.list s5 t5 (Jg done),.int .i64 kat]=Jw ⟨ps,khs,done0,done,kat⟩:=by simp only[Jh,Ap,AC,hcn1,hcn2,hcn3,Jw];rfl
  have hlm:(JaM set).length=set.length:=by simp[JaM]
  replace hR:=hR.trans hR3;have hfl:(cfs.map Jn).length=cfs.length:=Ak _;rw[<- hlm]at hres;refine' JM;refine JSg (j:=JX.length+3) hlt rfl rfl hml ?_;refine' JM
  ·rw[if_pos O]at hres;refine KV (Kr L.toLibW _ _ _ _) rfl rfl rfl ?_;exact pan _ _ _ _ hres hR
  ·rw[if_neg O]at hres;rw[hres,hcc];exact Ju hH1 rfl (QL _) ⟨_,hR,rfl,rfl⟩
theorem Jwi(L:LibY pr F){cs:List Cls}{U:List (List Nat)}(C:Cst cs U){H:List Blk}{rw:List Nat}{nt:Nat}{c:Cls}{k:Ctr}(T:TbU H nt cs U)(hcm:c∈cs)(hK:KtOk k) :
  ∃ rw',Rx rw rw'/\Det pr F 119 [.ptr nt 0,.agg (Jc c),.agg (Jw k)] ⟨H,rw⟩ (KR Jwg (Jbq cs U c k)) ⟨H,rw'⟩:=by
 have hm:=L.hm;suffices h:Wp pr F 119 [.ptr nt 0,.agg (Jc c),.agg (Jw k)] ⟨H,rw⟩ λr' S'=>∃ rw',Rx rw rw'/\r'=KR Jwg (Jbq cs U c k)/\S'=⟨H,rw'⟩ by obtain⟨r',S',hd,rw',h1,rfl,rfl⟩:=h.det hm;exact⟨rw',h1,hd⟩
 have hR:Rx rw rw:=Rx.rfl;obtain⟨hKp,hKs,hKb,hKw,hKv,hKz,hKa⟩:=hK;obtain⟨kp,khs,ksu,kbd,kat⟩:=k;simp only at hKp hKs hKb hKw hKv hKz hKa;have hr0:RmOk {Vy with inNew:=true}:=⟨.inl rfl,λv hv=>Fd,λv hv=>Fd⟩
 have hfw:=C.few.mem hcm;have hres:Jbq cs U c ⟨kp,khs,ksu,kbd,kat⟩=(XE cs U {Vy with inNew:=true} kp).bind λx=>(QH cs U x.1 none ksu).bind λs=>
  if(khs && c.super == []) || !KS cs U s (VW cs c.super)then Kz 132 kat else
  (VS cs U c x.1 [] kbd).bind λy=>if y.2.length<c.fields.length then Kz 137 kat else .ok ⟨x.2,khs,s,y.1,kat⟩:=rfl
 generalize Jbq cs U c ⟨kp,khs,ksu,kbd,kat⟩=res at *;refine Jt hm L.f119.1 L.f119.2 rfl ?_;refine Kt hm ?_;unfold JvD;show At pr F H.length (fin _ H.length _) _ _ _ _;refine Ku hm ?_;intro H1 hH1 hlen hlt;have T1:=λM=>T.keep (JF hH1 (.cells Jbu) M);have pan:∀(x:Int×Int) (e:KC) (M:List Blk) (rw':List Nat),res=.error x->Rx rw rw'->fin [.cell 6 (some 5)] H.length (λr' S'=>∃ rw',Rx rw rw'/\r'=KR Jwg res/\S'=⟨H,rw'⟩) (.panic (Xs x)) e ⟨hp H1 H.length (.cells Jbu) M,rw'⟩:=λx e M rw' hre hr'=>Fw
 refine' JM;refine Kj (q:=H.length) rfl rfl (Kh hlt) ?_;refine' JM;obtain⟨v1,rw2,hi1,hR2,hd⟩:=Joo L C (l:=kp) (r:={Vy with inNew:=true}) (T1 [.cells (Jc c),.cells (Jw ⟨kp,khs,ksu,kbd,kat⟩),.cells [.nilp,.str [],.list 0 .full [],.bool false,.list 0 .full [],.bool false]]) hr0 hKp Ck hKw (rw:=rw);refine Kk hd rfl rfl rfl ?_ ?_
 ·intro c hc;rw[hc]at hres;exact pan c _ _ _ hres (hR.trans hR2)
 intro x v hvx hc;rw[hc]at hres;change v=.tup [.agg (JC nt x.1),v1]at hvx;subst hvx;replace hi1:=hi1 x hc;clear hd;replace hR:=hR.trans hR2;obtain⟨r2,ps⟩:=x;obtain⟨hr2,hrl2,hrt2,-⟩:=Jbr _ hr0 (λp hp=>⟨hKp p hp,by have:=Q3 (w:=V0) hp;simp only[V0]at this;omega⟩) hc;have hpl:=Jb0 (w:=V0) (λx=>Ca) kp;simp only[Vy,Af,AF]at hr2 hrl2 hrt2 hi1;have hcn1:=hi1.canon;obtain⟨s1,t1,rfl,-,-⟩:=hi1.ex;replace hres:res=(QH cs U r2 none ksu).bind λs=>
  if(khs && c.super == []) || !KS cs U s (VW cs c.super)then Kz 132 kat else
  (VS cs U c r2 [] kbd).bind λy=>if y.2.length<c.fields.length then Kz 137 kat else .ok ⟨ps,khs,s,y.1,kat⟩:=hres
 refine JQ ?_;refine' JM;have hkx:=JbO _ hKs;have hvx:=Je3 ksu;have hel:=JV ksu;have hvl:=Zf ksu;refine JB hm (λmm e S'=>∃(q:Nat) (done:List Xp) (J:List Blk) (lv:AV) (rw3:List Nat),S'=⟨hp H1 H.length (.cells Jbu) (.cells (Jc c)::.cells (.list s1 t1 (ps.map Jf)::List.drop 1 (Jw ⟨kp,khs,ksu,kbd,kat⟩))::.cells (JC nt r2)::J),rw3⟩/\q<=ksu.length/\done.length=q/\(∀ y∈done,Zm (Q4 y))/\Lst rw2 5 lv (Ja done) rw3/\Rx rw2 rw3 /\
  QH cs U r2 none ksu=((QH cs U r2 none (ksu.drop q)).bind λm=>.ok (done++m))/\mm=ksu.length-q /\
  e=[(0,.ptr nt 0),(4,.ptr (H1.length+0) 0),(5,.ptr (H1.length+1) 0),(6,.ptr H.length 0),(7,.ptr (H1.length+2) 0),(9,lv),(33,Kp 5 (Ja ksu)),(34,.int .i64 ((Ja ksu).length:Int)),(35,.int .i64 q)]) ?_ (m:=ksu.length) ⟨0,[],[],_,rw2,rfl,O,rfl,λy hy=>(by cases hy),Lst.nil,Rx.rfl,?_,rfl,rfl⟩
 rotate_left
 ·simp only[AA,Au];cases QH cs U r2 none ksu <;> rfl
 rintro mm e S' ⟨q,done,J,lv,rw3,rfl,hq0,hdl,hdx,hli,hR3,hod,rfl,rfl⟩;have hdl2:=JV done;by_cases hq:q<ksu.length
 ·obtain⟨x,hx2⟩:∃ x,ksu[q]? = some x:=⟨_,Ab hq⟩
  have hxr:(Ja ksu)[q]? = some (Jb x):=by rw[KB,Ax,hx2];rfl
  have hl5:Kp 5 (Ja ksu)=.list 5 .dead (Ja ksu):=Kf (i:=q) O;rw[Jol hx2]at hod;have hxm:=Aq hx2;have hxw:=ZJ hkx hxm;have hxv:=JaI hxm;rw[hl5];refine' JM;obtain⟨rw6,hR6,hd⟩:=Jju L C (x:=x) (rb:=H1.length+2) (T1 (.cells (Jc c)::.cells (.list s1 t1 (ps.map Jf)::List.drop 1 (Jw ⟨kp,khs,ksu,kbd,kat⟩))::.cells (JC nt r2)::(J++[.cells (Jb x)]))) (Jem hlt rfl) hr2 O O hxw (rw:=rw3);refine Kk hd rfl rfl rfl ?_ ?_
  ·intro c hc;rw[hod,hc]at hres;exact KM (pan c _ _ _ hres ((hR.trans hR3).trans hR6))
  intro x' v hvx hc;change v=.agg (Jb x')at hvx;subst hvx;have hX:=C.of hr2 hxw O hc;rw[hc]at hod;clear hd;replace hli:=hli.ext hR6;replace hR3:=hR3.trans hR6;refine JQ ?_;refine Qp ?_;refine Q1 rfl (vs:=[.agg (Jb x')]) rfl ?_;refine Z2 (JG x') ?_;refine' JM;refine JT ?_;refine JW rfl rfl rfl ?_;refine QB hli hR3 AH AH O ?_;intro l4 rw7 hl4 hR7;refine JQ ?_;refine' JM;refine⟨ksu.length-(q+1),O,q+1,done++[x'],_,l4,rw7,rfl,O,Fu,?_,Fv,hR7,?_,rfl,Fc⟩
  ·intro y hy;rcases AM.1 hy with hy |hy
   ·exact hdx y hy
   ·rw[AN.1 hy];exact hX
  ·rw[hod];show((QH cs U r2 none (ksu.drop (q+1))).bind λl'=>.ok (x'::l')).bind _=_;cases QH cs U r2 none (ksu.drop (q+1)) <;> simp[Except.bind]
 ·rw[AU O,QH]at hod;change QH cs U r2 none ksu=.ok (done++[])at hod;rw[Ar]at hod;rw[hod]at hres;replace hres:res=if(khs && c.super == []) || !KS cs U done (VW cs c.super)then Kz 132 kat else
   (VS cs U c r2 [] kbd).bind λy=>if y.2.length<c.fields.length then Kz 137 kat else .ok ⟨ps,khs,done,y.1,kat⟩:=hres
  have hcn2:=hli.isL.canon;have hfi:=hli.isL.q;obtain⟨s4,t4,rfl,-,-⟩:=hli.isL.ex;replace hR:=hR.trans hR3;obtain⟨cn,cif,csu,cab,cfs,cvs,ct,cms,cat⟩:=c;refine' JM;obtain⟨rw5,hR5,hd⟩:=TbU.ctorOf L.toLibW (T1 (.cells (Jc ⟨cn,cif,csu,cab,cfs,cvs,ct,cms,cat⟩)::.cells [.list s1 t1 (ps.map Jf),.bool khs,.list s4 t4 (Ja done),Kp 7 (Jg kbd),.int .i64 kat]::.cells (JC nt r2)::(J++[.cells (Jw Jjt)]))) csu (rw:=rw3);refine Je rfl rfl rfl ?_;refine Ks hd ?_;replace hR:=hR.trans hR5;clear hd;have hcp:VW cs csu=((ZT cs csu).getD Jjt).params:=by unfold VW;cases ZT cs csu <;> rfl
  have hco:=JrK C.ok csu;simp only at hres;rw[hcp]at hco hres;simp only[Jek];generalize (ZT cs csu).getD Jjt=kc at *;generalize (ZT cs csu).isSome=ib at *;obtain⟨kp2,ks2,ksu2,kb2,ka2⟩:=kc;simp only at hco hres;refine JQ ?_;have htk:∀ rw5,∃ rw6,Rx rw5 rw6/\Det pr F 181 [.ptr (H1.length+2) 0,.list s4 t4 (Ja done),Kp 8 (kp2.map Jf)] ⟨hp H1 H.length (.cells Jbu) (.cells (Jc ⟨cn,cif,csu,cab,cfs,cvs,ct,cms,cat⟩)::.cells [.list s1 t1 (ps.map Jf),.bool khs,.list s4 t4 (Ja done),Kp 7 (Jg kbd),.int .i64 kat]::.cells (JC nt r2)::(J++[.cells (Jw ⟨kp2,ks2,ksu2,kb2,ka2⟩)])),rw5⟩ (.ret (.bool (KS cs U done kp2))) ⟨_,rw6⟩:=λrw5=>TbU.takes L.toLibW (T1 _) (Jem hlt rfl) hfi (YM (rows:=kp2.map Jf)) hdx hco O;have next:∀(P:Prop) (bk:Bool),(bk=false->KS cs U done kp2=false->P)->(bk=false->KS cs U done kp2=true->P)->bk=false->P:=λP bk h1 h2 hb=>by
   cases hf:KS cs U done kp2 with
   | false=>exact h1 hb hf
   | true=>exact h2 hb hf
  have hsw:∃ bk,(khs && csu == [])=bk:=⟨_,rfl⟩
  obtain⟨bk,hbk⟩:=hsw;rw[hbk]at hres;cases bk with
  | true=>
   obtain⟨rfl,hcs⟩:khs=true/\csu=[]:=by simpa using hbk
   subst hcs;replace hres:res=Kz 132 kat:=hres;refine' JM;refine KV (Kr L.toLibW _ _ _ _) rfl rfl rfl ?_;exact pan _ _ _ _ hres hR
  | false=>
   obtain⟨rw6,hR6,hd⟩:=htk rw5;cases hf:KS cs U done kp2 with
   | false=>
    rw[hf]at hres hd;replace hres:res=Kz 132 kat:=hres;cases khs with
    | true=>
     have hcs:csu≠[]:=by simpa using hbk
     refine' JM;refine KV (Kr L.toLibW _ _ _ _) rfl rfl rfl ?_;exact pan _ _ _ _ hres (hR.trans hR6)
    | false=>refine' JM;refine KV (Kr L.toLibW _ _ _ _) rfl rfl rfl ?_;exact pan _ _ _ _ hres (hR.trans hR6)
   | true=>
    rw[hf]at hres hd;replace hres:res=(VS cs U ⟨cn,cif,csu,cab,cfs,cvs,ct,cms,cat⟩ r2 [] kbd).bind λy=>if y.2.length<cfs.length then Kz 137 kat else .ok ⟨ps,khs,done,y.1,kat⟩:=hres
    have hgo:∀(P:Prop),(khs=false->P)->(khs=true->csu≠[]->P)->P:=λP h1 h2=>by
     cases khs with
     | true=>exact h2 rfl (by simpa using hbk)
     | false=>exact h1 rfl
    refine hgo _ (λh=>?_) (λh hcs=>?_);all_goals
     subst h;refine' JM;clear hd;replace hR:=hR.trans hR6
    all_goals
     obtain⟨JX,hJX⟩:∃ JX,J++[Blk.cells (Jw ⟨kp2,ks2,ksu2,kb2,ka2⟩)]=JX:=⟨_,rfl⟩
     rw[hJX];clear hJX htk hco hfi hli hdl2 hdx hdl hod hq hq0;refine Jq7 (M':=_::_::_::(JX++[.map []])) (q:=JX.length+3) hlt rfl rfl rfl ?_;refine JQ ?_;refine' JM;exact JDq L C hH1 hlt T1 pan (JbU hcm C.ok.wt).1 (by have:=T.lt;omega) hKb hr2 O hKz (by rw[hrt2];exact Dk _) hcn1 hcn2 hR hres
def Jwj(c:Cls):AV:=.agg (Jc c)
def Jj1:List AV:=[.str [],.bool false,.str [],.list 0 .full [],.list 0 .full [],.list 0 .full [],.list 0 .full [],.list 0 .full [],.int .i64 0]
theorem Jfq{α:Type}{f:α->Er α}{l:List α}{q:Nat}{x:α}(h:l[q]? = some x):QZ f (l.drop q)=(f x).bind λy=>(QZ f (l.drop (q+1))).bind λm=>.ok (y::m):=by obtain⟨hl,he⟩:=Ac.1 h;rw[AY hl,he,QZ]
theorem Jmz(L:LibY pr F){cs:List Cls}{U:List (List Nat)}(C:Cst cs U){H H1:List Blk}{rw rw6:List Nat}{nt:Nat}{cn:Jk}{cif:Bool}{csu:Jk}{cab:List Jk}{cfs fs:List Fld}{cvs is:List Xp}{ct:List Ctr}{cms:List Mth}{cat:Int}{own:Room}
  {s1 s2:Nat} {t1 t2:Tag} {J:List Blk} {res:Er Cls} (hH1:H1=H++[.cells Jj1]) (hlt:H.length<H1.length) (T1:∀ M,TbU (hp H1 H.length (.cells Jj1) M) nt cs U)
  (pan:∀(x:Int×Int) (e:KC) (M:List Blk) (rw':List Nat),res=.error x->Rx rw rw'->fin [.cell 4 (some 9)] H.length (λr' S'=>∃ rw',Rx rw rw'/\r'=KR Jwj res/\S'=⟨H,rw'⟩) (.panic (Xs x)) e ⟨hp H1 H.length (.cells Jj1) M,rw'⟩)
  (hcm:⟨cn,cif,csu,cab,cfs,cvs,ct,cms,cat⟩∈cs) (hro:RmOk own) (hov:own.vars.length=0) (hor:own.ret=[]) (hc6:∀ x∈ct,KtOk x) (hc7:∀ x∈cms,MtOk x) (hkl:ct.length<=64800000) (hml:cms.length<=64800000)
  (hcn1:canon1 (.list s1 t1 (fs.map Jn))=Kp 9 (fs.map Jn)) (hcn2:canon1 (.list s2 t2 (Ja is))=Kp 5 (Ja is)) (hR:Rx rw rw6)
  (hres:res=(QZ (Jbq cs U ⟨cn,cif,csu,cab,cfs,cvs,ct,cms,cat⟩) ct).bind λks=>(QZ (Jbp cs U own) cms).bind λms=>.ok ⟨cn,cif,csu,cab,fs,is,ks,ms,cat⟩) :
  At pr F H.length (fin [.cell 4 (some 9)] H.length λr' S'=>∃ rw',Rx rw rw'/\r'=KR Jwj res/\S'=⟨H,rw'⟩) (IC.loop [0,3,4,5,6,95,96,97] (JvE.seq ((IC.cond (.tmp 98) IC.skip (IC.exit 4)).seq ((IC.block 5 (JvF.seq JvG)).seq JvH)))) [Fr.blk 4,Fr.code ((JvI.seq (IC.block 6 (IC.loop [4,5,6,112,113,114] (JvJ.seq ((IC.cond (.tmp 115) IC.skip (IC.exit 6)).seq ((IC.block 7 (JvK.seq JvL)).seq JvM)))))).seq (JvN.seq IC.ret))] [(0,.ptr nt 0),(3,.ptr (H1.length+0) 0),(4,.ptr H.length 0),(5,.ptr (H1.length+1) 0),(6,.ptr (H1.length+2) 0),(95,Kp 5 (ct.map Jw)),(96,.int .i64 ((ct.map Jw).length:Int)),(97,.int .i64 0)]
   ⟨hp H1 H.length (.cells Jj1) (.cells (Jc ⟨cn,cif,csu,cab,cfs,cvs,ct,cms,cat⟩)::.cells (JC nt own)::.cells [.str cn,.bool cif,.str csu,Kp 1 (cab.map Qy),.list s1 t1 (fs.map Jn),.list s2 t2 (Ja is),.list 0 .full [],.list 0 .full [],.int .i64 cat]::J),rw6⟩:=by
 have hm:=L.hm;have hlk:(ct.map Jw).length=ct.length:=Ak _;have hlm:(cms.map Jm).length=cms.length:=Ak _;obtain⟨kF,hkF⟩:∃ kF,kF=Jbq cs U ⟨cn,cif,csu,cab,cfs,cvs,ct,cms,cat⟩:=⟨_,rfl⟩
 obtain⟨mF,hmF⟩:∃ mF,mF=Jbp cs U own:=⟨_,rfl⟩
 rw[<- hkF,<- hmF]at hres;refine JB hm (λmm e S'=>∃(q:Nat) (ks:List Ctr) (J:List Blk) (lv:AV) (rw3:List Nat),S'=⟨hp H1 H.length (.cells Jj1) (.cells (Jc ⟨cn,cif,csu,cab,cfs,cvs,ct,cms,cat⟩)::.cells (JC nt own)::.cells [.str cn,.bool cif,.str csu,Kp 1 (cab.map Qy),.list s1 t1 (fs.map Jn),.list s2 t2 (Ja is),lv,.list 0 .full [],.int .i64 cat]::J),rw3⟩/\q<=ct.length/\ks.length=q/\Lst rw6 5 lv (ks.map Jw) rw3/\Rx rw6 rw3 /\
  QZ kF ct=((QZ kF (ct.drop q)).bind λm=>.ok (ks++m))/\mm=ct.length-q /\
  e=[(0,.ptr nt 0),(3,.ptr (H1.length+0) 0),(4,.ptr H.length 0),(5,.ptr (H1.length+1) 0),(6,.ptr (H1.length+2) 0),(95,Kp 5 (ct.map Jw)),(96,.int .i64 ((ct.map Jw).length:Int)),(97,.int .i64 q)]) ?_ (m:=ct.length) ⟨0,[],J,_,rw6,rfl,O,rfl,Lst.nil,Rx.rfl,?_,rfl,rfl⟩
 rotate_left
 ·simp only[AA,Au];cases QZ kF ct <;> rfl
 rintro mm e S' ⟨q,ks,J,lv,rw3,rfl,hq0,hdl,hli,hR3,hod,rfl,rfl⟩;have hdl2:(ks.map Jw).length=ks.length:=Ak _;by_cases hq:q<ct.length
 ·obtain⟨x,hx⟩:∃ x,ct[q]? = some x:=⟨_,Ab hq⟩
  have hxr:(ct.map Jw)[q]? = some (Jw x):=E7
  have hl5:Kp 5 (ct.map Jw)=.list 5 .dead (ct.map Jw):=Kf (i:=q) O;rw[Jfq hx]at hod;have hxm:=Aq hx;rw[hl5];refine' JM;obtain⟨rw5,hR5,hd⟩:=Jwi L C (k:=x) (T1 (.cells (Jc ⟨cn,cif,csu,cab,cfs,cvs,ct,cms,cat⟩)::.cells (JC nt own)::.cells [.str cn,.bool cif,.str csu,Kp 1 (cab.map Qy),.list s1 t1 (fs.map Jn),.list s2 t2 (Ja is),lv,.list 0 .full [],.int .i64 cat]::(J++[.cells (Jw x)]))) hcm (hc6 x hxm) (rw:=rw3);rw[<- hkF]at hd;refine Kk hd rfl rfl rfl ?_ ?_
  ·intro c hc;rw[hc]at hod;replace hod:QZ kF ct=.error c:=hod;rw[hod]at hres;exact KM (pan c _ _ _ hres ((hR.trans hR3).trans hR5))
  intro x' v hvx hc;rw[hc]at hod;change v=.agg (Jw x')at hvx;subst hvx;clear hd;replace hli:=hli.ext hR5;replace hR3:=hR3.trans hR5;refine JQ ?_;refine Qp ?_;refine Q1 rfl (vs:=[.agg (Jw x')]) rfl ?_;refine Z2 (QL x') ?_;refine JT ?_;refine JW rfl rfl rfl ?_;refine QB hli hR3 AH AH O ?_;intro l4 rw7 hl4 hR7;obtain⟨s4,t4,rfl,-,-⟩:=hl4.isL.ex;refine JQ ?_;refine' JM;refine⟨ct.length-(q+1),O,q+1,ks++[x'],_,_,rw7,rfl,O,Fu,Ek,hR7,?_,rfl,Fc⟩;rw[hod];show((QZ kF (ct.drop (q+1))).bind λm=>.ok (x'::m)).bind _=_;cases QZ kF (ct.drop (q+1)) <;> simp[Except.bind]
 ·rw[AU O,QZ]at hod;replace hod:QZ kF ct=.ok (ks++[]):=hod;rw[Ar]at hod;rw[hod]at hres;replace hres:res=(QZ mF cms).bind λms=>.ok ⟨cn,cif,csu,cab,fs,is,ks,ms,cat⟩:=hres;have hcn3:=hli.isL.canon;obtain⟨s3,t3,rfl,-,-⟩:=hli.isL.ex;replace hR:=hR.trans hR3;refine' JM;clear hod hli hR3 hq hq0 hdl2 hdl;refine JB hm (λmm e S'=>∃(q:Nat) (ms:List Mth) (J:List Blk) (lv:AV) (rw4:List Nat),S'=⟨hp H1 H.length (.cells Jj1) (.cells (Jc ⟨cn,cif,csu,cab,cfs,cvs,ct,cms,cat⟩)::.cells (JC nt own)::.cells [.str cn,.bool cif,.str csu,Kp 1 (cab.map Qy),.list s1 t1 (fs.map Jn),.list s2 t2 (Ja is),.list s3 t3 (ks.map Jw),lv,.int .i64 cat]::J),rw4⟩/\q<=cms.length/\ms.length=q/\Lst rw3 11 lv (ms.map Jm) rw4/\Rx rw3 rw4 /\
   QZ mF cms=((QZ mF (cms.drop q)).bind λm=>.ok (ms++m))/\mm=cms.length-q /\
   e=[(4,.ptr H.length 0),(5,.ptr (H1.length+1) 0),(6,.ptr (H1.length+2) 0),(112,Kp 11 (cms.map Jm)),(113,.int .i64 ((cms.map Jm).length:Int)),(114,.int .i64 q)]) ?_ (m:=cms.length) ⟨0,[],J,_,rw3,rfl,O,rfl,Lst.nil,Rx.rfl,?_,rfl,rfl⟩
  rotate_left
  ·simp only[AA,Au];cases QZ mF cms <;> rfl
  rintro mm e S' ⟨q,ms,J,lv,rw4,rfl,hq0,hdl,hli,hR3,hod,rfl,rfl⟩;have hdl2:(ms.map Jm).length=ms.length:=Ak _;by_cases hq:q<cms.length
  ·obtain⟨x,hx⟩:∃ x,cms[q]? = some x:=⟨_,Ab hq⟩
   have hxr:(cms.map Jm)[q]? = some (Jm x):=E7
   have hl5:Kp 11 (cms.map Jm)=.list 11 .dead (cms.map Jm):=Kf (i:=q) O;rw[Jfq hx]at hod;have hxm:=Aq hx;rw[hl5];refine' JM;try rw[Xd]
   obtain⟨rw5,hR5,hd⟩:=Jwf L C (m:=x) (T1 (.cells (Jc ⟨cn,cif,csu,cab,cfs,cvs,ct,cms,cat⟩)::.cells (JC nt own)::.cells [.str cn,.bool cif,.str csu,Kp 1 (cab.map Qy),.list s1 t1 (fs.map Jn),.list s2 t2 (Ja is),.list s3 t3 (ks.map Jw),lv,.int .i64 cat]::(J++[.cells (Jm x)]))) hro (hc7 x hxm) O hor (rw:=rw4);rw[<- hmF]at hd;refine Kk hd rfl rfl rfl ?_ ?_
   ·intro c hc;rw[hc]at hod;replace hod:QZ mF cms=.error c:=hod;rw[hod]at hres;exact KM (pan c _ _ _ hres ((hR.trans hR3).trans hR5))
   intro x' v hvx hc;rw[hc]at hod;change v=.agg (Jm x')at hvx;subst hvx;clear hd;replace hli:=hli.ext hR5;replace hR3:=hR3.trans hR5;refine JQ ?_;refine Qp ?_;refine Q1 rfl (vs:=[.agg (Jm x')]) rfl ?_;refine Z2 (Qa x') ?_;refine JT ?_;refine JW rfl rfl rfl ?_;refine QB hli hR3 AH AH O ?_;intro l4 rw7 hl4 hR7;obtain⟨s4,t4,rfl,-,-⟩:=hl4.isL.ex;refine JQ ?_;refine' JM;refine⟨cms.length-(q+1),O,q+1,ms++[x'],_,_,rw7,rfl,O,Fu,Ek,hR7,?_,rfl,Fc⟩;rw[hod];show((QZ mF (cms.drop (q+1))).bind λm=>.ok (x'::m)).bind _=_;cases QZ mF (cms.drop (q+1)) <;> simp[Except.bind]
  ·rw[AU O,QZ]at hod;replace hod:QZ mF cms=.ok (ms++[]):=hod;rw[Ar]at hod;rw[hod]at hres;replace hres:res=.ok ⟨cn,cif,csu,cab,fs,is,ks,ms,cat⟩:=hres;have hcn4:=hli.isL.canon;obtain⟨s5,t5,rfl,-,-⟩:=hli.isL.ex;replace hR:=hR.trans hR3;have hcc:Jh [.str cn,.bool cif,.str csu,Kp 1 (cab.map Qy),.list s1 t1 (fs.map Jn),.list s2 t2 (Ja is),.list s3 t3 (ks.map Jw),.list s5 t5 (ms.map Jm),.int .i64 cat]=Jc ⟨cn,cif,csu,cab,fs,is,ks,ms,cat⟩:=by simp only[Jh,Ap,AC,hcn1,hcn2,hcn3,hcn4,Jq,Jc];rfl
   refine' JM;rw[hcc,hres];exact Ju hH1 rfl (KT _) ⟨_,hR,rfl,rfl⟩
theorem Jwk(L:LibY pr F){cs:List Cls}{U:List (List Nat)}(C:Cst cs U){H:List Blk}{rw:List Nat}{nt:Nat}{c:Cls}(T:TbU H nt cs U)(hcm:c∈cs)(hok:JcG c)(hw:Xx c<=64800000) :
  ∃ rw',Rx rw rw'/\Det pr F 77 [.ptr nt 0,.agg (Jc c)] ⟨H,rw⟩ (KR Jwj (Jci cs U c)) ⟨H,rw'⟩:=by
 have hm:=L.hm;suffices h:Wp pr F 77 [.ptr nt 0,.agg (Jc c)] ⟨H,rw⟩ λr' S'=>∃ rw',Rx rw rw'/\r'=KR Jwj (Jci cs U c)/\S'=⟨H,rw'⟩ by obtain⟨r',S',hd,rw',h1,rfl,rfl⟩:=h.det hm;exact⟨rw',h1,hd⟩
 have hR:Rx rw rw:=Rx.rfl;obtain⟨cn,cif,csu,cab,cfs,cvs,ct,cms,cat⟩:=c;obtain⟨hc1,hc2,hc3,hc4,hc5,hc6,hc7⟩:=hok;simp only at hc1 hc2 hc3 hc4 hc5 hc6 hc7;have hfw:=C.few.mem hcm;simp only[Xx]at hw;have hvx:=Je3 cvs;have hwx:=JbO _ hc5;have hvl:=Zf cvs;have hro:RmOk {Vy with this:=cn}:=⟨.inr hc1,λv hv=>Fd,λv hv=>Fd⟩
 obtain⟨own,hown⟩:∃ own:Room,own={Vy with this:=cn}:=⟨_,rfl⟩
 rw[<- hown]at hro;have hov:own.vars.length=0:=by rw[hown];rfl
 have hor:own.ret=[]:=by rw[hown];rfl
 have hres:Jci cs U ⟨cn,cif,csu,cab,cfs,cvs,ct,cms,cat⟩=(QZ (λf:Fld=>(tyF cs U own f.type).bind λt=>.ok {f with type:=t}) cfs).bind λfs=>(Qg cs U own cvs).bind λis=>
  if !cif && ct.isEmpty && !cfs.isEmpty then Kz 137 cat else if !cif && ct.isEmpty && !(VW cs csu).isEmpty then Kz 132 cat else
  (QZ (Jbq cs U ⟨cn,cif,csu,cab,cfs,cvs,ct,cms,cat⟩) ct).bind λks=>(QZ (Jbp cs U own) cms).bind λms=>.ok ⟨cn,cif,csu,cab,fs,is,ks,ms,cat⟩:=by rw[Jci,hown]
 generalize Jci cs U ⟨cn,cif,csu,cab,cfs,cvs,ct,cms,cat⟩=res at *;have hlf:(cfs.map Jn).length=cfs.length:=Ak _;have hlm:(cms.map Jm).length=cms.length:=Ak _;have hlk:(ct.map Jw).length=ct.length:=Ak _;have hlx:=JV cvs;have hkl:=Jb0 (w:=Jhb) (λx=>by simp only[Jhb];omega) ct;refine Jt hm L.f77.1 L.f77.2 rfl ?_;refine Kt hm ?_;unfold JEp;show At pr F H.length (fin _ H.length _) _ _ _ _;refine Ku hm ?_;intro H1 hH1 hlen hlt;have T1:=λM=>T.keep (JF hH1 (.cells Jj1) M);have pan:∀(x:Int×Int) (e:KC) (M:List Blk) (rw':List Nat),res=.error x->Rx rw rw'->fin [.cell 4 (some 9)] H.length (λr' S'=>∃ rw',Rx rw rw'/\r'=KR Jwj res/\S'=⟨H,rw'⟩) (.panic (Xs x)) e ⟨hp H1 H.length (.cells Jj1) M,rw'⟩:=λx e M rw' hre hr'=>Fw
 refine' JM;refine Kj (q:=H.length) rfl rfl (Kh hlt) ?_;refine' JM;obtain⟨fF,hfF⟩:∃ fF:Fld->Er Fld,fF=λf:Fld=>(tyF cs U own f.type).bind λt=>.ok {f with type:=t}:=⟨_,rfl⟩
 rw[<- hfF]at hres;have hlf:(cfs.map Jn).length=cfs.length:=Ak _;have hfl:cfs.length<=64800000:=(JbU hcm C.ok.wt).1;refine JB hm (λmm e S'=>∃(q:Nat) (done:List Fld) (J:List Blk) (lv:AV) (rw3:List Nat),S'=⟨hp H1 H.length (.cells Jj1) (.cells (Jc ⟨cn,cif,csu,cab,cfs,cvs,ct,cms,cat⟩)::.cells (JC nt own)::.cells [.str cn,.bool cif,.str csu,Kp 1 (cab.map Qy),lv,.list 0 .full [],.list 0 .full [],.list 0 .full [],.int .i64 cat]::J),rw3⟩/\q<=cfs.length/\done.length=q/\Lst rw 9 lv (done.map Jn) rw3/\Rx rw rw3 /\
  QZ fF cfs=((QZ fF (cfs.drop q)).bind λm=>.ok (done++m))/\mm=cfs.length-q /\
  e=[(0,.ptr nt 0),(3,.ptr (H1.length+0) 0),(4,.ptr H.length 0),(5,.ptr (H1.length+1) 0),(6,.ptr (H1.length+2) 0),(27,Kp 9 (cfs.map Jn)),(28,.int .i64 ((cfs.map Jn).length:Int)),(29,.int .i64 q)]) ?_ (m:=cfs.length) ⟨0,[],[],_,rw,by rw[hown];rfl,O,rfl,Lst.nil,Rx.rfl,?_,rfl,rfl⟩
 rotate_left
 ·simp only[AA,Au];cases QZ fF cfs <;> rfl
 rintro mm e S' ⟨q,done,J,lv,rw3,rfl,hq0,hdl,hli,hR3,hod,rfl,rfl⟩;have hdl2:(done.map Jn).length=done.length:=Ak _;by_cases hq:q<cfs.length
 ·obtain⟨x,hx⟩:∃ x,cfs[q]? = some x:=⟨_,Ab hq⟩
  have hxr:(cfs.map Jn)[q]? = some (Jn x):=E7
  have hl9:Kp 9 (cfs.map Jn)=.list 9 .dead (cfs.map Jn):=Kf (i:=q) O;rw[Jfq hx]at hod;have hxm:=Aq hx;have hxo:=(hc4 x hxm).2;have hxw:=Q3 (w:=JlD) hxm;obtain⟨fn,⟨k1,n1,u1,e1,p1,a1⟩,ff,fa⟩:=x;simp only[JlD]at hxw;simp only at hxo;have hxk:=JgO _ hxo;have hxv:=Jsq (.mk k1 n1 u1 e1 p1 a1);have hfx:fF ⟨fn,.mk k1 n1 u1 e1 p1 a1,ff,fa⟩=(tyF cs U own (.mk k1 n1 u1 e1 p1 a1)).bind λt=>.ok ⟨fn,t,ff,fa⟩:=by rw[hfF]
  rw[hfx]at hod;rw[hl9];refine' JM;try rw[Xd]
  obtain⟨rw4,hR4,hd⟩:=Jjv L C (t:=.mk k1 n1 u1 e1 p1 a1) (T1 (.cells (Jc ⟨cn,cif,csu,cab,cfs,cvs,ct,cms,cat⟩)::.cells (JC nt own)::.cells [.str cn,.bool cif,.str csu,Kp 1 (cab.map Qy),lv,.list 0 .full [],.list 0 .full [],.list 0 .full [],.int .i64 cat]::(J++[.cells (Jn ⟨fn,.mk k1 n1 u1 e1 p1 a1,ff,fa⟩)]))) hro O O (.inl hxk) (rw:=rw3);refine Kk hd rfl rfl rfl ?_ ?_
  ·intro c hc;rw[hc]at hod;replace hod:QZ fF cfs=.error c:=hod;rw[hod]at hres;exact KM (pan c _ _ _ hres ((hR.trans hR3).trans hR4))
  intro t' v hvx hc;rw[hc]at hod;change v=.agg (Jl t')at hvx;subst hvx;clear hd;replace hli:=hli.ext hR4;replace hR3:=hR3.trans hR4;obtain⟨k2,n2,u2,e2,p2,a2⟩:=t';refine JQ ?_;refine' JM;have hpe:List.take 1 (Jn ⟨fn,.mk k1 n1 u1 e1 p1 a1,ff,fa⟩)++Jl (.mk k2 n2 u2 e2 p2 a2)++List.drop 7 (Jn ⟨fn,.mk k1 n1 u1 e1 p1 a1,ff,fa⟩)=Jn ⟨fn,.mk k2 n2 u2 e2 p2 a2,ff,fa⟩:=rfl;have hrp:=QE ⟨fn,.mk k2 n2 u2 e2 p2 a2,ff,fa⟩;rw[hpe,hrp.can];refine Qp ?_;refine Q1 rfl (vs:=[.agg (Jn ⟨fn,.mk k2 n2 u2 e2 p2 a2,ff,fa⟩)]) rfl ?_;refine Z2 hrp ?_;refine JT ?_;refine JW rfl rfl rfl ?_;refine QB hli hR3 AH AH O ?_;intro l4 rw7 hl4 hR7;obtain⟨s4,t4,rfl,-,-⟩:=hl4.isL.ex;refine JQ ?_;refine' JM;refine⟨cfs.length-(q+1),O,q+1,done++[⟨fn,.mk k2 n2 u2 e2 p2 a2,ff,fa⟩],_,_,rw7,rfl,O,Fu,Ek,hR7,?_,rfl,by first |rfl |(rw[hl9];rfl)⟩;rw[hod];show((QZ fF (cfs.drop (q+1))).bind λm=>.ok ((⟨fn,.mk k2 n2 u2 e2 p2 a2,ff,fa⟩:Fld)::m)).bind _=_;cases QZ fF (cfs.drop (q+1)) <;> simp[Except.bind]
 ·rw[AU O,QZ]at hod;replace hod:QZ fF cfs=.ok (done++[]):=hod;rw[Ar]at hod;rw[hod]at hres;replace hres:res=(Qg cs U own cvs).bind λis=>
   if !cif && ct.isEmpty && !cfs.isEmpty then Kz 137 cat else if !cif && ct.isEmpty && !(VW cs csu).isEmpty then Kz 132 cat else
   (QZ (Jbq cs U ⟨cn,cif,csu,cab,cfs,cvs,ct,cms,cat⟩) ct).bind λks=>(QZ (Jbp cs U own) cms).bind λms=>.ok ⟨cn,cif,csu,cab,done,is,ks,ms,cat⟩:=hres
  have hcn1:=hli.isL.canon;obtain⟨s1,t1,rfl,-,-⟩:=hli.isL.ex;replace hR:=hR.trans hR3;refine' JM;clear hod hli hR3 hq hq0 hdl2 hdl hfF;refine JB hm (λmm e S'=>∃(q:Nat) (is:List Xp) (J:List Blk) (lv:AV) (rw4:List Nat),S'=⟨hp H1 H.length (.cells Jj1) (.cells (Jc ⟨cn,cif,csu,cab,cfs,cvs,ct,cms,cat⟩)::.cells (JC nt own)::.cells [.str cn,.bool cif,.str csu,Kp 1 (cab.map Qy),.list s1 t1 (done.map Jn),lv,.list 0 .full [],.list 0 .full [],.int .i64 cat]::J),rw4⟩/\q<=cvs.length/\is.length=q/\Lst rw3 5 lv (Ja is) rw4/\Rx rw3 rw4 /\
   Qg cs U own cvs=((Qg cs U own (cvs.drop q)).bind λm=>.ok (is++m))/\mm=cvs.length-q /\
   e=[(0,.ptr nt 0),(3,.ptr (H1.length+0) 0),(4,.ptr H.length 0),(5,.ptr (H1.length+1) 0),(6,.ptr (H1.length+2) 0),(46,Kp 5 (Ja cvs)),(47,.int .i64 ((Ja cvs).length:Int)),(48,.int .i64 q)]) ?_ (m:=cvs.length) ⟨0,[],J,_,rw3,rfl,O,rfl,Lst.nil,Rx.rfl,?_,rfl,rfl⟩
  rotate_left
  ·simp only[AA,Au];cases Qg cs U own cvs <;> rfl
  rintro mm e S' ⟨q,is,J,lv,rw4,rfl,hq0,hdl,hli,hR3,hod,rfl,rfl⟩;have hdl2:=JV is;by_cases hq:q<cvs.length
  ·obtain⟨x,hx⟩:∃ x,cvs[q]? = some x:=⟨_,Ab hq⟩
   have hxr:(Ja cvs)[q]? = some (Jb x):=Fq
   have hl5:Kp 5 (Ja cvs)=.list 5 .dead (Ja cvs):=Kf (i:=q) O;rw[Jel hx]at hod;have hxm:=Aq hx;have hxw:=ZJ hwx hxm;have hxv:=JaI hxm;rw[hl5];refine' JM;try rw[Xd]
   obtain⟨rw5,hR5,hd⟩:=JrL L C (x:=x) (T1 (.cells (Jc ⟨cn,cif,csu,cab,cfs,cvs,ct,cms,cat⟩)::.cells (JC nt own)::.cells [.str cn,.bool cif,.str csu,Kp 1 (cab.map Qy),.list s1 t1 (done.map Jn),lv,.list 0 .full [],.list 0 .full [],.int .i64 cat]::(J++[.cells (Jb x)]))) hro O O hxw (rw:=rw4);refine Kk hd rfl rfl rfl ?_ ?_
   ·intro c hc;rw[hc]at hod;replace hod:Qg cs U own cvs=.error c:=hod;rw[hod]at hres;exact KM (pan c _ _ _ hres ((hR.trans hR3).trans hR5))
   intro x' v hvx hc;rw[hc]at hod;change v=.agg (Jb x')at hvx;subst hvx;clear hd;replace hli:=hli.ext hR5;replace hR3:=hR3.trans hR5;refine JQ ?_;refine Qp ?_;refine Q1 rfl (vs:=[.agg (Jb x')]) rfl ?_;refine Z2 (JG x') ?_;refine JT ?_;refine JW rfl rfl rfl ?_;refine QB hli hR3 AH AH O ?_;intro l4 rw7 hl4 hR7;obtain⟨s4,t4,rfl,-,-⟩:=hl4.isL.ex;refine JQ ?_;refine' JM;refine⟨cvs.length-(q+1),O,q+1,is++[x'],_,_,rw7,rfl,O,Fu,by have hea:Ja (is++[x'])=Ja is++[Jb x']:=(by simp only[KB,An,Ap,AC]);rw[hea];exact hl4,hR7,?_,rfl,Fc⟩;rw[hod];show((Qg cs U own (cvs.drop (q+1))).bind λm=>.ok (x'::m)).bind _=_;cases Qg cs U own (cvs.drop (q+1)) <;> simp[Except.bind]
  ·rw[AU O,Qg]at hod;replace hod:Qg cs U own cvs=.ok (is++[]):=hod;rw[Ar]at hod;rw[hod]at hres;replace hres:res=if !cif && ct.isEmpty && !cfs.isEmpty then Kz 137 cat else if !cif && ct.isEmpty && !(VW cs csu).isEmpty then Kz 132 cat else
    (QZ (Jbq cs U ⟨cn,cif,csu,cab,cfs,cvs,ct,cms,cat⟩) ct).bind λks=>(QZ (Jbp cs U own) cms).bind λms=>.ok ⟨cn,cif,csu,cab,done,is,ks,ms,cat⟩:=hres
   have hcn2:=hli.isL.canon;obtain⟨s2,t2,rfl,-,-⟩:=hli.isL.ex;replace hR:=hR.trans hR3;have hkt:∀ x∈ct,KtOk x:=λx hx=>JEv (hc6 x hx) (by have:=Q3 (w:=Jhb) hx;omega);have hmt:∀ x∈cms,MtOk x:=λx hx=>JEu (hc7 x hx) (by have:=Q3 (w:=JcF) hx;omega);have hcl:ct.length<=64800000:=O;have hml:cms.length<=64800000:=by have:=Jb0 (w:=JcF) (λx=>by simp only[JcF];omega) cms;omega
   by_cases hif:cif=false/\ct=[]
   ·obtain⟨rfl,rfl⟩:=hif;by_cases hfs:cfs=[]
    ·subst hfs;replace hres:res=if !(VW cs csu).isEmpty then Kz 132 cat else(QZ (Jbq cs U ⟨cn,false,csu,cab,[],cvs,[],cms,cat⟩) []).bind λks=>(QZ (Jbp cs U own) cms).bind λms=>.ok ⟨cn,false,csu,cab,done,is,ks,ms,cat⟩:=hres
     have at3:=λ(J:List Blk) (rw5:List Nat) (hR:Rx rw rw5) hres2=>Jmz L C (J:=J) hH1 hlt T1 pan hcm hro hov hor hkt hmt hcl hml hcn1 hcn2 hR hres2;refine' JM;all_goals first |(exfalso;exact hq rfl) |skip
     obtain⟨rw5,hR5,hd⟩:=TbU.ctorOf L.toLibW (T1 (.cells (Jc ⟨cn,false,csu,cab,[],cvs,[],cms,cat⟩)::.cells (JC nt own)::.cells [.str cn,.bool false,.str csu,Kp 1 (cab.map Qy),.list s1 t1 (done.map Jn),.list s2 t2 (Ja is),.list 0 .full [],.list 0 .full [],.int .i64 cat]::(J++[.cells (Jw Jjt)]))) csu (rw:=rw4);refine Je rfl rfl rfl ?_;refine Ks hd ?_;clear hd;replace hR:=hR.trans hR5;cases hk:ZT cs csu with
     | none=>
      have hcp:VW cs csu=[]:=by(unfold VW;rw[hk];rfl)
      rw[hcp]at hres;replace hres:res=(QZ (Jbq cs U ⟨cn,false,csu,cab,[],cvs,[],cms,cat⟩) []).bind λks=>(QZ (Jbp cs U own) cms).bind λms=>.ok ⟨cn,false,csu,cab,done,is,ks,ms,cat⟩:=hres;simp only[Jek,BR,BU];refine JQ ?_;refine' JM;exact at3 _ _ hR hres
     | some kc=>
      obtain⟨kp2,ks2,ksu2,kb2,ka2⟩:=kc;have hcp:VW cs csu=kp2:=by(unfold VW;rw[hk];rfl)
      rw[hcp]at hres;simp only[Jek,Bc,Bj];have hpl:(kp2.map Jf).length=kp2.length:=Ak _;refine JQ ?_;by_cases hk2:kp2=[]
      ·subst hk2;replace hres:res=(QZ (Jbq cs U ⟨cn,false,csu,cab,[],cvs,[],cms,cat⟩) []).bind λks=>(QZ (Jbp cs U own) cms).bind λms=>.ok ⟨cn,false,csu,cab,done,is,ks,ms,cat⟩:=hres;refine' JM;all_goals first |(exact at3 _ _ hR hres) |(exfalso;simp at hq;done)
      ·have hfp:0<kp2.length:=Cg.2 hk2;rw[if_pos (by simp[hk2])]at hres;refine' JM;all_goals first |(exfalso;omega) |skip
       refine KV (Kr L.toLibW _ _ _ _) rfl rfl rfl ?_;exact pan _ _ _ _ hres hR
    ·have hfp:0<cfs.length:=Cg.2 hfs;rw[if_pos (by simp[hfs])]at hres;refine' JM;all_goals first |(exfalso;exact hq rfl) |(exfalso;omega) |skip
     refine KV (Kr L.toLibW _ _ _ _) rfl rfl rfl ?_;exact pan _ _ _ _ hres hR
   ·have hres2:res=(QZ (Jbq cs U ⟨cn,cif,csu,cab,cfs,cvs,ct,cms,cat⟩) ct).bind λks=>(QZ (Jbp cs U own) cms).bind λms=>.ok ⟨cn,cif,csu,cab,done,is,ks,ms,cat⟩:=by
     rw[hres];have hb:(!cif && ct.isEmpty)=false:=by
      cases cif with
      | true=>rfl
      | false=>
       cases ct with
       | nil=>exact absurd ⟨rfl,rfl⟩ hif
       | cons _ _=>rfl
     rw[hb];simp only[CZ,AT,if_false]
    cases cif with
    | true=>refine' JM;exact Jmz L C hH1 hlt T1 pan hcm hro hov hor hkt hmt hcl hml hcn1 hcn2 hR hres2
    | false=>have hct:ct≠[]:=λh=>hif ⟨rfl,h⟩;have hcp:0<ct.length:=Cg.2 hct;have hlk:(ct.map Jw).length=ct.length:=Ak _;refine' JM;all_goals first |(exact Jmz L C hH1 hlt T1 pan hcm hro hov hor hkt hmt hcl hml hcn1 hcn2 hR hres2) |(exfalso;omega)
variable {P:Program} {K:Ghost} {S S':St} {w:World} {a:Act}
def SameA(zs:List Nat)(a a':Act):Prop:=a'.defers=a.defers/\a'.tmps.size=a.tmps.size/\∀ t∈zs,a'.tmps.getD t Go.undef=a.tmps.getD t Go.undef
theorem SameA.rfl{zs:List Nat}{a:Act}:SameA zs a a:=⟨Eq.refl _,Eq.refl _,λ_ _=>Eq.refl _⟩
theorem SameA.trans{zs:List Nat}{a b c:Act}(h2:SameA zs b c)(h1:SameA zs a b):SameA zs a c:=⟨h2.1.trans h1.1,h2.2.1.trans h1.2.1,λt ht=>(h2.2.2 t ht).trans (h1.2.2 t ht)⟩
def zB(zs:List Nat)(it:Item):Bool:=match it.dst with
 | some t=>!zs.contains t
 | none=>true
theorem F6{Q:Prop}(h:Q:=by cases it.dst <;> simp[Act.put]):Q:=h
theorem Jwl{zs:List Nat}{it:Item}{a:Act}(h:zB zs it=true)(u:Value):SameA zs a (a.put it.dst u):=by
 refine⟨F6,F6,λt ht=>?_⟩;unfold zB at h;cases hd:it.dst with
 | none=>simp[Act.put]
 | some d=>rw[hd]at h;simp only[Bb,BD,decide_eq_false_iff_not]at h;have hne:d≠t:=λe=>h (e ▸ ht);simp[Act.put,hne]
theorem F7{Q:Prop}(h:Q:=by simp[Rep,Go.undef]):Q:=h
theorem JmA{zs:List Nat}{b0 base nt:Nat}{cl:Ky}{ops:Array Oper}{it:Item}{e e':KC}{r:Option AV}{Kont:Act->World->Prop}{Q:Exit->Act->World->Prop}(hz:zB zs it=true)(hc:VM P ops nt it=true)(hcl:VF P cl)
  (R:Rel K S w) (hsc:VL S.heap.length S) (E:EnvRep K (Jj e) a.tmps) (hnt:nt<=a.tmps.size) (hb0:b0<=S.heap.length) (hal:∀ n,it.makes base n->K.m n=none) (hs:YR b0 cl base it e S=some (r,e',S'))
  (hk:∀ a' w' K',r=none->Rel K' S' w'->EnvRep K' (Jj e') a'.tmps->a'.tmps.size=a.tmps.size->SameA zs a a'->Step K (λn=>n<S.heap.length/\¬ it.makes base n) w K' w'->Keeps b0 S S'->Kont a' w')
  (hp:∀ v u w' K',r=some v->Rep K' v u->Rel K' S' w'->Step K (λn=>n<S.heap.length/\¬ it.makes base n) w K' w'->Keeps b0 S S'->Q (.panic [{v:=u,recovered:=false}]) a w') :
  wpOp P ops Q it.ix Kont a w:=by
 unfold VM at hc;split at hc
 ·rename_i o ho;simp only[Ah,beq_iff_eq]at hc;obtain⟨⟨⟨h1,h2⟩,h3⟩,h4⟩:=hc;have hd:∀ t,it.dst=some t->t<a.tmps.size:=λt ht=>by rw[ht]at h2;simp only[decide_eq_true_eq]at h2;omega
  have hsz:∀ u,(a.put it.dst u).tmps.size=a.tmps.size:=λu=>F6
  have hdf:∀ u,SameA zs a (a.put it.dst u):=λu=>Jwl hz u;unfold wpOp;simp only[ho];unfold YR at hs;split at hs
  ·simp at hs
  ·
   rename_i hw;simp only[V,AP]at hs;obtain⟨rfl,rfl,rfl⟩:=hs;rw[Jas h3 E hw];simp only[AT,if_false];rw[h1];exact hk _ w K rfl R (E.put F7 it.dst hd) (hsz _) (hdf _) (Step.refl _ _ _) (KY _ _)
  ·rename_i hw;rw[Jas h3 E hw];simp only[if_true];left;split at hs
   ·rename_i q hq;rw[hq]at h4;split at hs
    ·rename_i v hv;simp only[V,AP]at hs;obtain⟨rfl,rfl,rfl⟩:=hs;obtain⟨v',K',w',hrun,hr,R',hst⟩:=JSR h4 R E hv (λn hn=>hal n (by unfold Item.makes;rw[hq];exact hn));unfold Oper.wp;rw[hrun];show Kont (a.put o.dst v') w';rw[h1];refine hk _ w' K' rfl R' ((E.ext hst.ext).put hr it.dst hd) (hsz _) (hdf _) (hst.mono ?_) (KY _ _);rintro n ⟨_,hn⟩ hm;exact hn (by unfold Item.makes;rw[hq];exact hm)
    ·simp at hs
   ·rename_i l re hl;rw[hl]at h4;split at hs
    ·rename_i v S1 hv;simp only[V,AP]at hs;obtain⟨rfl,rfl,rfl⟩:=hs;refine lwp h4 hcl R hsc E hb0 hv ?_ ?_
     ·intro v1 v' K' w' hr hrep R' hst hkp;cases hr;rw[h1];exact hk _ w' K' rfl R' ((E.ext hst.ext).put hrep it.dst hd) (hsz _) (hdf _) (hst.mono (λn hn=>hn.1)) hkp
     ·intro v1 v' K' w' hr;cases hr
    ·rename_i v S1 hv;simp only[V,AP]at hs;obtain⟨rfl,rfl,rfl⟩:=hs;refine lwp h4 hcl R hsc E hb0 hv ?_ ?_
     ·intro v1 v' K' w' hr;cases hr
     ·intro v1 v' K' w' hr hrep R' hst hkp;cases hr;exact hp _ v' w' K' rfl hrep R' (hst.mono (λn hn=>hn.1)) hkp
    ·simp at hs
 ·simp at hc
theorem F8{Q:Prop}(h:Q:=by obtain⟨j,_,rfl⟩:=VA.1 hm;omega):Q:=h
theorem JjD{zs:List Nat}{b0 base nt:Nat}{cl:Ky}{ops:Array Oper}{Q:Exit->Act->World->Prop}{N:Nat}(hcl:VF P cl):∀(items prev:List Item) (K:Ghost) (S:St) (w:World) (a:Act) (e e':KC) (r:Option AV) (S':St),
  (∀ it∈items,zB zs it=true)->(∀ it∈items,VM P ops nt it=true)->Rel K S w->VL S.heap.length S->EnvRep K (Jj e) a.tmps->nt<=a.tmps.size->b0<=S.heap.length->N<=S.heap.length->Pend K base S items->N<=base ->
  run b0 cl base prev items e S=some (r,e',S') ->
  (∀ a' w' K',r=none->Rel K' S' w'->EnvRep K' (Jj e') a'.tmps->a'.tmps.size=a.tmps.size->SameA zs a a'->Step K (λn=>n<N) w K' w'->Keeps b0 S S'->Q .normal a' w') ->
  (∀ v u a' w' K',r=some v->Rep K' v u->Rel K' S' w'->SameA zs a a'->Step K (λn=>n<N) w K' w'->Keeps b0 S S'->Q (.panic [{v:=u,recovered:=false}]) a' w') ->
  wpOps P ops Q (items.map (·.ix)) a w
 | [],prev,K,S,w,a,e,e',r,S',_,_,R,_,E,_,_,_,_,_,hrun,hk,_=>by simp only[run,V,AP]at hrun;obtain⟨rfl,rfl,rfl⟩:=hrun;exact hk a w K rfl R E rfl SameA.rfl (Step.refl _ _ _) (KY _ _)
 | it::rest,prev,K,S,w,a,e,e',r,S',hz,hc,R,hsc,E,hnt,hb0,hN,hpd,hNb,hrun,hk,hp=>by
  rw[Ap,wpOps_cons];simp only[run]at hrun;have hmk:∀ n,n<N->n<S.heap.length/\¬ it.makes base n:=λn hn=>⟨O,λhm=>F8⟩
  split at hrun
  ·simp at hrun
  ·rename_i v e1 S1 hs;simp only[V,AP]at hrun;obtain⟨rfl,rfl,rfl⟩:=hrun;refine JmA (hz it Ag) (hc it Ag) hcl R hsc E hnt hb0 (hpd.none it Ag) hs ?_ ?_
   ·intro a' w' K' h;cases h
   ·intro v' u w' K' hv hr R' hst hkp;exact hp v' u a w' K' hv hr R' SameA.rfl (hst.mono hmk) hkp
  ·rename_i e1 S1 hs;split at hrun
   ·refine JmA (hz it Ag) (hc it Ag) hcl R hsc E hnt hb0 (hpd.none it Ag) hs ?_ ?_
    ·intro a1 w1 K1 _ R1 E1 hsz hdf hst hkp;have hkl:=hkp.1;refine JjD hcl rest (it::prev) K1 S1 w1 a1 e1 e' r S' (λi hi=>hz i (A7 _ hi)) (λi hi=>hc i (A7 _ hi)) R1 (hkp.2.2 hsc) E1 O O O (hpd.next hst hkl) hNb hrun ?_ ?_
     ·intro a' w' K' hr R' E' hsz' hdf' hst' hkp';exact hk a' w' K' hr R' E' O (hdf'.trans hdf) ((hst.mono hmk).trans hst' (λ_ h=>h)) (hkp.trans hkp')
     ·intro v u a' w' K' hr hrep R' hdf' hst' hkp';exact hp v u a' w' K' hr hrep R' (hdf'.trans hdf) ((hst.mono hmk).trans hst' (λ_ h=>h)) (hkp.trans hkp')
    ·intro v u w' K' h;cases h
   ·simp at hrun
theorem F9{Q:Prop}(h:Q:=by simpa using he):Q:=h
theorem Ga{Q:Prop}(h:Q:=by simp[hk]):Q:=h
theorem Gb{Q:Prop}(h:Q:=by simp[Array.getD,hk2]):Q:=h
theorem Gc{Q:Prop}(h:Q:=by have:=hAx k hk;simp only[Zj,hkl k hk,B3,Ah,Bp,BD,decide_eq_true_eq]at this;exact⟨this.1.1.1,this.1.1.2,by rcases this.1.2 with(h |h) |h <;> simp[h]⟩):Q:=h
theorem Ge{Q:Prop}(h:Q:=by simp only[Zj,Ah]at h;exact h.2):Q:=h
theorem Gf{Q:Prop}(h:Q:=by have:=hAx k hk;simp only[Zj,Ah]at this;exact this.2):Q:=h
theorem Gg{Q:Prop}(h:Q:=by rw[he2];exact E'):Q:=h
theorem Js6{zs:List Nat}{b0 base nt:Nat}{cl:Ky}{ops:Array Oper}{Q:Exit->Act->World->Prop}{N:Nat}{md:Region.Mode}{tab M:List Nat}(hcl:VF P cl)(hmd:∀ e,Region.binds .any e=true->Region.binds md e=true)
  (hok:Jgw ops tab=true) (hM:Jcw md ops M=true):∀(m:Nat) (L:List Item) (listed:Array Bool) (K:Ghost) (S:St) (w:World) (a:Act) (e e':KC) (r:Option AV) (S':St),L.length=m ->
  listed.size=ops.size->JoX ops listed->(∀ i,listed.getD i true=false↔i∈L.map (·.ix))->(L.map (·.ix)).Nodup ->
  List.Pairwise (λk x=>Zj tab k x=true) L->(∀ k∈L,JeH k=true) ->
  (∀ it∈L,zB zs it=true)->(∀ it∈L,VM P ops nt it=true)->Rel K S w->VL S.heap.length S->EnvRep K (Jj e) a.tmps->nt<=a.tmps.size->b0<=S.heap.length->N<=S.heap.length->Pend K base S L->N<=base ->
  run b0 cl base [] L e S=some (r,e',S') ->
  (∀ a' w' K',r=none->Rel K' S' w'->EnvRep K' (Jj e') a'.tmps->a'.tmps.size=a.tmps.size->SameA zs a a'->Step K (λn=>n<N) w K' w'->Keeps b0 S S'->Q .normal a' w') ->
  (∀ v u a' w' K',r=some v->Rep K' v u->Rel K' S' w'->SameA zs a a'->Step K (λn=>n<N) w K' w'->Keeps b0 S S'->Q (.panic [{v:=u,recovered:=false}]) a' w') ->
  wpAny P md ops Q m listed a w:=by
 intro m;induction m with
 | zero=>intro L listed K S w a e e' r S' hL hls hd hun hnd hpw hself hz hc R hsc E hnt hb0 hN hpd hNb hrun hk hp;have:L=[]:=Bz.1 hL;subst this;simp only[run,V,AP]at hrun;obtain⟨rfl,rfl,rfl⟩:=hrun;refine⟨?_,hk a w K rfl R E rfl SameA.rfl (Step.refl _ _ _) (KY _ _)⟩;rw[DH];intro i hi;have:=(hun i).1 (mem_ready.1 hi).1;simp at this
 | succ m ih=>
  intro L listed K S w a e e' r S' hL hls hd hun hnd hpw hself hz hc R hsc E hnt hb0 hN hpd hNb hrun hk hp;refine⟨λhr=>?_,λi hi=>?_⟩
  ·exfalso;simp only[Jcw,Ah,Bo]at hM;have hne:L≠[]:=by rintro rfl;simp at hL
   obtain⟨x,hx⟩:=DZ L hne;have hxl:=(hun x.ix).2 (Bw.2 ⟨x,hx,rfl⟩);have hxc:=hc x hx;have hxi:x.ix<ops.size:=by
    unfold VM at hxc;split at hxc
    ·rename_i o ho;exact(AQ.1 ho).1
    ·simp at hxc
   have hxM:=hM.2 x.ix (Cc.2 hxi);obtain⟨j,hj⟩:=Jbc hls M [] hM.1 Ag ⟨x.ix,by simpa using hxM,hxl⟩;rw[hr]at hj;cases hj
  ·obtain⟨hil,o,ho,hpre⟩:=mem_ready.1 hi;obtain⟨x,hx,hxi⟩:=Bw.1 ((hun i).1 hil);subst hxi;obtain⟨A,B,rfl⟩:=CY hx;have hpre':∀ e∈o.after.toList,Region.binds .any e=true->listed.getD e.on false=true:=λe he hb=>hpre e F9 (hmd e hb);have hbef:=JeI hok hd x.ix o ho hpre';have hpwA:=(Cb.1 hpw)
   have hAx:∀ k∈A,Zj tab k x=true:=λk hk=>hpwA.2.2 k hk x Ag;have hkl:∀ k∈A,(tab.getD x.ix 0).testBit k.ix=false:=λk hk=>by
    cases hb:(tab.getD x.ix 0).testBit k.ix with
    | false=>rfl
    | true=>
     have h1:=hbef k.ix hb;have h2:=(hun k.ix).2 (Bw.2 ⟨k,Ga,rfl⟩);have hk2:k.ix<listed.size:=by
      rcases Dy k.ix listed.size with h |h
      ·exact h
      ·simp[Array.getD,DO.2 h]at h1
     have:listed.getD k.ix true=listed.getD k.ix false:=Gb
     rw[this,h1]at h2;cases h2
   have hpull:=pull (A:=A) (B:=B) (x:=x) (e:=e) (S:=S) (r:=r) (e':=e') (S':=S') (b0:=b0) (cl:=cl) (base:=base) (λk hk=>Gc)
    (hpwA.1.imp (fun{k y} h=>Ge))
    (λk hk=>Gf) (λk hk=>hself k Ga) hrun
   have hmk:∀ n,n<N->n<S.heap.length/\¬ x.makes base n:=λn hn=>⟨O,λhm=>F8⟩
   rcases hpull with⟨v,hv,hst⟩ |⟨e1,S1,hst,e2,hrun2,he2⟩
   ·refine JmA (hz x hx) (hc x hx) hcl R hsc E hnt hb0 (hpd.none x hx) hst ?_ ?_
    ·intro a' w' K' h;cases h
    ·intro v' u w' K' hv' hr R' hstp hkp;cases hv';exact hp v u a w' K' hv hr R' SameA.rfl (hstp.mono hmk) hkp
   ·refine JmA (hz x hx) (hc x hx) hcl R hsc E hnt hb0 (hpd.none x hx) hst ?_ ?_
    ·intro a1 w1 K1 _ R1 E1 hsz hdf hstp hkp;have hnd':((A++B).map (·.ix)).Nodup/\x.ix ∉ (A++B).map (·.ix):=by rw[An,Ap]at hnd;have h1:=(List.perm_middle.nodup_iff).1 hnd;rw[B6]at h1;rw[An];exact⟨h1.2,h1.1⟩
     have hxs:x.ix<listed.size:=by rw[hls];exact(AQ.1 ho).1
     refine ih (A++B) (listed.setIfInBounds x.ix true) K1 S1 w1 a1 e1 e2 r S' ?_ ?_ ?_ ?_ hnd'.1 ?_ ?_ ?_ ?_ R1 (hkp.2.2 hsc) E1 O ?_ ?_ ?_ hNb hrun2 ?_ ?_
     ·simp at hL |-;omega
     ·simpa using hls
     ·intro j oj ej hoj hlj hej hbj;by_cases hjx:x.ix=j
      ·subst hjx;rw[ho]at hoj;cases hoj;exact getD_set_true (hpre' ej hej hbj)
      ·rw[getD_set_ne false hjx]at hlj;exact getD_set_true (hd j oj ej hoj hlj hej hbj)
     ·intro j;by_cases hjx:x.ix=j
      ·subst hjx;have:(listed.setIfInBounds x.ix true).getD x.ix true=true:=by simp[Array.getD,hxs]
       rw[this];simp only[Bool.true_eq_false,false_iff];exact hnd'.2
      ·rw[getD_set_ne true hjx,hun j];simp only[An,Ap,AM,AS];constructor
       ·rintro(h |h |h)
        ·exact .inl h
        ·exact absurd h.symm hjx
        ·exact .inr h
       ·rintro(h |h)
        ·exact .inl h
        ·exact .inr (.inr h)
     ·exact Cb.2 ⟨hpwA.1,(BK.1 hpwA.2.1).2,λk hk y hy=>hpwA.2.2 k hk y Ei⟩
     ·exact λk hk=>hself k (by
       rcases AM.1 hk with h |h
       ·simp[h]
       ·simp[h])
     ·exact λk hk=>hz k (by
       rcases AM.1 hk with h |h
       ·simp[h]
       ·simp[h])
     ·exact λk hk=>hc k (by
       rcases AM.1 hk with h |h
       ·simp[h]
       ·simp[h])
     ·have:=hkp.1;omega
     ·have:=hkp.1;omega
     ·exact hpd.pull hstp hkp.1
     ·intro a' w' K' hr R' E' hsz' hdf' hst' hkp';exact hk a' w' K' hr R' Gg O (hdf'.trans hdf) ((hstp.mono hmk).trans hst' (λ_ h=>h)) (hkp.trans hkp')
     ·intro v u a' w' K' hr hrep R' hdf' hst' hkp';exact hp v u a' w' K' hr hrep R' (hdf'.trans hdf) ((hstp.mono hmk).trans hst' (λ_ h=>h)) (hkp.trans hkp')
    ·intro v u w' K' h;cases h
def J0W(zs:List Nat)(P:Program)(b0 _nt:Nat)(K:Ghost)(S:St)(w:World)(a:Act)(c:Code)(r:Ex×KC×St):Prop:=
 ∀ Q:Exit->Act->World->Prop,(∀ a' w' K' en,Rel K' r.2.2 w'->(ZO r.1->EnvRep K' (Jj r.2.1) a'.tmps)->SameA zs a a'->(ZO r.1->a'.tmps.size=a.tmps.size) ->
  Step K (λn=>n<S.heap.length) w K' w'->Keeps b0 S r.2.2->Exr K' r.1 en->Q en a' w')->c.wp P Q a w
theorem Gh{Q:Prop}(h:Q:=by obtain⟨cs,hcs,rfl⟩:=Bw.1 hb;exact h4 cs hcs):Q:=h
theorem Gi{Q:Prop}(h:Q:=by intro w0 hw0 a' w' K' hr R' E' hsz hdf hst hkp;have:=hnorm hr;subst this;exact hQ a' w' K' .normal R' (λ_=>E'.keep kp) hdf (λ_=>hsz) (hw0.trans hst (λ_ h=>h)) (hkr.trans hkp) trivial):Q:=h
theorem Gj{Q:Prop}(h:Q:=by intro w0 hw0 v u a' w' K' hr hrep R' hdf hst hkp;have:=hpan v hr;subst this;exact hQ a' w' K' (.panic [{v:=u,recovered:=false}]) R' (λh=>by cases h) hdf (λh=>by cases h) (hw0.trans hst (λ_ h=>h)) (hkr.trans hkp) ⟨u,rfl,hrep⟩):Q:=h
theorem JoG{zs:List Nat}{b0 nt n id:Nat}{cl:Ky}{allocs:List (List AV)}{items:List Item}{kp:List Nat}{ops:Array Oper}{draw:Bool}{K:Ghost}{S:St}{w:World}{a:Act}{e:KC}{r:Ex×KC×St}
  (hcl:VF P cl) (hz:∀ it∈items,zB zs it=true) (hc:Jbd P nt allocs items ops draw=true) (R:Rel K S w) (hsc:VL S.heap.length S) (E:EnvRep K (Jj e) a.tmps) (hnt:nt<=a.tmps.size) (hb0:b0<=S.heap.length)
  (hx:Qr b0 cl n (.region allocs items kp) e S=some r):J0W zs P b0 nt K S w a (.region id ops draw) r:=by
 intro Q hQ;simp only[Jbd,Ah,Bo,decide_eq_true_eq]at hc;obtain⟨⟨⟨⟨h1,h2⟩,h3⟩,h4⟩,h5⟩:=hc;have R1:=R.reserve (allocs.map Blk.cells);have hkr:Keeps b0 S {S with heap:=S.heap++allocs.map Blk.cells}:=JaY hb0 (λb hb=>Gh)
 have hpd:Pend K S.heap.length {S with heap:=S.heap++allocs.map Blk.cells} items:=by
  refine⟨λit hi m hm=>?_,λit hi m hm=>?_,Yb h2⟩
  ·obtain⟨j,hj,rfl⟩:=VA.1 hm;exact R.none_ge O
  ·obtain⟨j,hj,rfl⟩:=VA.1 hm;have:=h3 j (CW.2 ⟨it,hi,hj⟩);simp;omega
 obtain⟨rr,e1,S1,hrun,hnorm,hpan⟩:∃ rr e1 S1,run b0 cl S.heap.length [] items e {S with heap:=S.heap++allocs.map Blk.cells}=some (rr,e1,S1)/\(rr=none->r=(.normal,keep kp e1,S1))/\(∀ v,rr=some v->r=(.panic v,e1,S1)):=by
  simp only[Qr]at hx;split at hx
  ·rename_i e1 S1 hrun;simp only[V]at hx;exact⟨none,e1,S1,hrun,λ_=>hx.symm,λv h=>EB⟩
  ·rename_i v e1 S1 hrun;simp only[V]at hx;exact⟨some v,e1,S1,hrun,(λh=>EB),λv' h=>by cases h;exact hx.symm⟩
  ·simp at hx
 have hk:∀(w0:World),Step K (λn=>n<S.heap.length) w K w0->∀ a' w' K',rr=none->Rel K' S1 w'->EnvRep K' (Jj e1) a'.tmps->a'.tmps.size=a.tmps.size->SameA zs a a'->Step K (λn=>n<S.heap.length) w0 K' w'->Keeps b0 {S with heap:=S.heap++allocs.map Blk.cells} S1->Q .normal a' w':=Gi
 have hp:∀(w0:World),Step K (λn=>n<S.heap.length) w K w0->∀ v u a' w' K',rr=some v->Rep K' v u->Rel K' S1 w'->SameA zs a a'->Step K (λn=>n<S.heap.length) w0 K' w'->Keeps b0 {S with heap:=S.heap++allocs.map Blk.cells} S1->Q (.panic [{v:=u,recovered:=false}]) a' w':=Gj
 cases draw with
 | false=>simp only[AT,if_false,beq_iff_eq]at h5;refine wp_region ?_;rw[<- h5];exact JjD (N:=S.heap.length) hcl items [] K _ w a e e1 rr S1 hz h1 R1 (hkr.2.2 hsc) E hnt AR Ag hpd (Ao _) hrun (hk w (Step.refl _ _ _)) (hp w (Step.refl _ _ _))
 | true=>
  simp only[if_true,Ah,beq_iff_eq,Bo,Bp,Bb]at h5;obtain⟨⟨⟨⟨⟨⟨g1,g2⟩,g3⟩,g4⟩,g5⟩,g6⟩,g7⟩:=h5;obtain⟨c1,c2⟩:=JaP g2;refine wp_region_draw λt=>?_;have key:∀(md:Region.Mode) (M:List Nat) (t':Nat),(∀ e,Region.binds .any e=true->Region.binds md e=true)->Jcw md ops M=true ->
    wpOps P ops Q (Region.linearise md ops t') a {w with drawn:=w.drawn+1}:=by
   intro md M t' hmd hM;refine wpAny_sound ops.size t' _ a _ ?_;refine Js6 (N:=S.heap.length) hcl hmd g1 hM ops.size items _ K _ w.drew a e e1 rr S1 g4 Ag ?_ ?_ (Yb g3) c1 c2 hz h1 R1.drew (hkr.2.2 hsc) E hnt AR Ag hpd (Ao _) hrun (hk _ (Step.drew _ _ _)) (hp _ (Step.drew _ _ _))
   ·intro i o ed _ hl;exfalso;simp only[AX,BE]at hl;split at hl <;> simp at hl
   ·intro i;constructor
    ·intro hl;simp only[AX,BE]at hl;split at hl
     ·rename_i hlt;have:=g5 i (Cc.2 hlt);simpa using this
     ·simp at hl
    ·intro hi;obtain⟨x,hx,rfl⟩:=Bw.1 hi;have hxc:=h1 x hx;unfold VM at hxc;split at hxc
     ·rename_i o ho;have hlt:=(AQ.1 ho).1;simp only[AX,BE];rw[if_pos hlt];rfl
     ·simp at hxc
  unfold Region.schedule;split
  ·exact key .any _ t (λ_ h=>h) g6
  ·rename_i hnd;simp only[Bp,Bb,not_or,DD]at hnd;rcases g7 with g7 |⟨g7,g8⟩
   ·rw[g7]at hnd;exact absurd hnd.2 Ag
   ·split
    ·refine key .text _ _ (λe h=>?_) g7;cases hg:e.ground <;> simp[Region.binds,hg]at h |-
    ·refine key .gc _ _ (λe h=>?_) g8;cases hg:e.ground <;> simp[Region.binds,hg]at h |-
def zC(zs:List Nat):IC->Bool
 | .region _ items _=>items.all (zB zs) && (JfD items).isNone
 | .seq a b=>zC zs a && zC zs b
 | .cond _ a b=>zC zs a && zC zs b
 | .block _ b=>zC zs b
 | .loop _ b=>zC zs b
 | _=>true
theorem Jc4{zs:List Nat}{b0 nt n:Nat}{cl:Ky}(hcl:VF P cl):∀(ic:IC) (c:Code) (K:Ghost) (S:St) (w:World) (a:Act) (e:KC) (r:Ex×KC×St),zC zs ic=true->Yn P nt ic c=true->Rel K S w->VL S.heap.length S->EnvRep K (Jj e) a.tmps->nt<=a.tmps.size->b0<=S.heap.length ->
  Qr b0 cl n ic e S=some r->J0W zs P b0 nt K S w a c r
 | .skip,c,K,S,w,a,e,r,hz,hc,R,_,E,_,_,hx=>by
  cases c <;> simp[Yn]at hc
  intro Q hQ;simp only[Qr,V]at hx;subst hx;exact wp_skip (hQ a w K .normal R (λ_=>E) SameA.rfl (λ_=>rfl) (Step.refl _ _ _) (KY _ _) trivial)
 | .exit id,c,K,S,w,a,e,r,hz,hc,R,_,E,_,_,hx=>by
  cases c <;> simp[Yn]at hc
  subst hc;intro Q hQ;simp only[Qr,V]at hx;subst hx;exact wp_exit (hQ a w K (.exit id) R (λ_=>E) SameA.rfl (λ_=>rfl) (Step.refl _ _ _) (KY _ _) rfl)
 | .stuck,c,K,S,w,a,e,r,hz,hc,R,_,E,_,_,hx=>by simp[Qr]at hx
 | .ret,c,K,S,w,a,e,r,hz,hc,R,_,E,_,_,hx=>by
  cases c <;> simp[Yn]at hc
  intro Q hQ;simp only[Qr,V]at hx;subst hx;exact wp_ret (hQ a w K .ret R (λ_=>E) SameA.rfl (λ_=>rfl) (Step.refl _ _ _) (KY _ _) trivial)
 | .region allocs items kp,c,K,S,w,a,e,r,hz,hc,R,hsc,E,hnt,hb0,hx=>by
  cases c <;> simp only[Yn,AT,Bp]at hc
  simp only[zC,Ah,Bo,Option.isNone_iff_eq_none]at hz;rcases hc with hc |hc
  ·exact JoG hcl hz.1 hc R hsc E hnt hb0 hx
  ·unfold JbD at hc;rw[hz.2,Dl]at hc;cases hc
 | .cond x i j,c,K,S,w,a,e,r,hz,hc,R,hsc,E,hnt,hb0,hx=>by
  simp only[zC,Ah]at hz;cases c <;> simp only[Yn,AT,Ah]at hc
  obtain⟨⟨h1,h2⟩,h3⟩:=hc;intro Q hQ;simp only[Qr]at hx;split at hx
  ·rename_i hv;have hr:=JA E h1 hv;simp only[Rep]at hr;exact wp_cond_true hr (Jc4 hcl i _ K S w a e r hz.1 h2 R hsc E hnt hb0 hx Q hQ)
  ·rename_i hv;have hr:=JA E h1 hv;simp only[Rep]at hr;exact wp_cond_false hr (Jc4 hcl j _ K S w a e r hz.2 h3 R hsc E hnt hb0 hx Q hQ)
  ·simp at hx
 | .seq i j,c,K,S,w,a,e,r,hz,hc,R,hsc,E,hnt,hb0,hx=>by
  simp only[zC,Ah]at hz;cases c <;> simp only[Yn,AT,Ah]at hc
  obtain⟨h1,h2⟩:=hc;intro Q hQ;simp only[Qr]at hx;refine wp_seq ?_;split at hx
  ·rename_i e1 S1 h;refine Jc4 hcl i _ K S w a e _ hz.1 h1 R hsc E hnt hb0 h _ ?_;intro a1 w1 K1 en R1 E1 hdf hsz hst hkp hex;cases en <;> simp only[Exr]at hex
   have hsz':=hsz trivial;refine Jc4 hcl j _ K1 S1 w1 a1 e1 r hz.2 h2 R1 (hkp.2.2 hsc) (E1 trivial) O (by have:=hkp.1;simp at this;omega) hx Q ?_;intro a2 w2 K2 en R2 E2 hdf2 hsz2 hst2 hkp2 hex2;exact hQ a2 w2 K2 en R2 E2 (hdf2.trans hdf) (λh=>by rw[hsz2 h,hsz']) (hst.trans hst2 (λm hm=>Bh hm hkp.1)) (hkp.trans hkp2) hex2
  ·rename_i hne;refine Jc4 hcl i _ K S w a e r hz.1 h1 R hsc E hnt hb0 hx _ ?_;intro a1 w1 K1 en R1 E1 hdf hsz hst hkp hex;have hnn:r.1≠.normal:=by intro h;obtain⟨ex,e1,S1⟩:=r;simp only at h;subst h;exact hne e1 S1 hx
   cases en with
   | normal=>
    exfalso;cases hr:r.1 <;> rw[hr]at hex <;> simp only[Exr]at hex
    exact hnn hr
   | _=>exact hQ a1 w1 K1 _ R1 E1 hdf hsz hst hkp hex
 | .block id i,c,K,S,w,a,e,r,hz,hc,R,hsc,E,hnt,hb0,hx=>by
  simp only[zC]at hz;cases c <;> simp only[Yn,AT,Ah,beq_iff_eq]at hc
  obtain⟨rfl,h2⟩:=hc;intro Q hQ;simp only[Qr]at hx;refine wp_block ?_;split at hx
  ·rename_i id' e1 S1 h;refine Jc4 hcl i _ K S w a e _ hz h2 R hsc E hnt hb0 h _ ?_;intro a1 w1 K1 en R1 E1 hdf hsz hst hkp hex;cases en <;> simp only[Exr]at hex
   subst hex;simp only[Exit.inBlock];split at hx
   ·rename_i hid;simp only[V]at hx;subst hx;rw[if_pos hid];exact hQ a1 w1 K1 .normal R1 (λ_=>E1 trivial) hdf (λ_=>hsz trivial) hst hkp trivial
   ·rename_i hid;simp only[V]at hx;subst hx;rw[if_neg hid];exact hQ a1 w1 K1 _ R1 (λ_=>E1 trivial) hdf (λ_=>hsz trivial) hst hkp rfl
  ·rename_i hne;refine Jc4 hcl i _ K S w a e r hz h2 R hsc E hnt hb0 hx _ ?_;intro a1 w1 K1 en R1 E1 hdf hsz hst hkp hex;cases en with
   | exit id'=>
    exfalso;cases hr:r.1 <;> rw[hr]at hex <;> simp only[Exr]at hex
    obtain⟨ex,e1,S1⟩:=r;simp only at hr;subst hr;exact hne _ e1 S1 hx
   | _=>exact hQ a1 w1 K1 _ R1 E1 hdf hsz hst hkp hex
 | .loop kp i,c,K,S,w,a,e,r,hz,hc,R,hsc,E,hnt,hb0,hx=>by
  simp only[zC]at hz;cases c <;> simp only[Yn,AT]at hc
  rename_i c;intro Q hQ;simp only[Qr]at hx;refine Jkf (P:=P) (n:=n) (λm a1 w1=>∃ K1 S1 e1,Rel K1 S1 w1/\EnvRep K1 (Jj e1) a1.tmps/\a1.tmps.size=a.tmps.size/\SameA zs a a1/\Step K (λn=>n<S.heap.length) w K1 w1/\Keeps b0 S S1/\JdU (Qr b0 cl n i) kp m e1 S1=some r) ?_ ?_ ⟨K,S,e,R,E,rfl,SameA.rfl,Step.refl _ _ _,KY _ _,hx⟩
  ·rintro a1 w1 ⟨K1,S1,e1,_,_,_,_,_,_,h⟩;simp[JdU]at h
  ·rintro m a1 w1 ⟨K1,S1,e1,R1,E1,hsz1,hdf1,hst1,hkp1,h⟩;simp only[JdU]at h;have hb1:b0<=S1.heap.length:=by have:=hkp1.1;omega
   split at h
   ·rename_i e2 S2 hb;refine Jc4 hcl i c K1 S1 w1 a1 _ _ hz hc R1 (hkp1.2.2 hsc) (E1.keep kp) O hb1 hb _ ?_;intro a2 w2 K2 en R2 E2 hdf hsz hst hkp hex;cases en <;> simp only[Exr]at hex
    exact⟨K2,S2,e2,R2,E2 trivial,(hsz trivial).trans hsz1,hdf.trans hdf1,hst1.trans hst (λm hm=>Bh hm hkp1.1),hkp1.trans hkp,h⟩
   ·rename_i hne;refine Jc4 hcl i c K1 S1 w1 a1 _ r hz hc R1 (hkp1.2.2 hsc) (E1.keep kp) O hb1 h _ ?_;intro a2 w2 K2 en R2 E2 hdf hsz hst hkp hex;have hnn:r.1≠.normal:=by intro hr;obtain⟨ex,e2,S2⟩:=r;simp only at hr;subst hr;exact hne e2 S2 h
    cases en with
    | normal=>
     exfalso;cases hr:r.1 <;> rw[hr]at hex <;> simp only[Exr]at hex
     exact hnn hr
    | _=>exact hQ a2 w2 K2 _ R2 E2 (hdf.trans hdf1) (λh=>(hsz h).trans hsz1) (hst1.trans hst (λm hm=>Bh hm hkp1.1)) (hkp1.trans hkp) hex
def Jp9(res:List RVar)(n0:Nat)(e:KC)(S:St):Option (Res×St):=match QT res e S.heap with
 | some rs=>some (.ret (Y4 n0 (X2 rs) S).1,(Y4 n0 (X2 rs) S).2)
 | none=>none
def Jhj(a b c d h:IC)(res:List RVar)(n:Nat)(cl:Ky)(vs:List AV)(S:St):Option (Res×St):=
 match Qr S.heap.length cl n a (Ys vs) S with
 | some (.normal,e0,S0)=>match Qr S.heap.length cl n b e0 S0 with
  | some (.normal,e1,S1)=>match Qr S.heap.length cl n c e1 S1 with
   | some (.ret,e2,S2)=>Jp9 res S.heap.length e2 S2
   | some (.normal,e2,S2)=>match Qr S.heap.length cl n d (keep [1,2,3,4] e2) S2 with
    | some (.ret,e3,S3)=>Jp9 res S.heap.length e3 S3
    | some (.panic (.iface t v),_,S3)=>match Jj e2 2,Jj e2 3,Jj e2 4 with
     | some x,some y,some z=>match Qr S.heap.length cl n h [(0,x),(1,y),(2,z),(3,.iface t v)] S3 with
      | some (.normal,_,S4)=>Jp9 res S.heap.length [(2,x),(3,y),(4,z)] S4
      | _=>none
     | _,_,_=>none
    | _=>none
   | _=>none
  | _=>none
 | _=>none
theorem Jge{a b c d h:IC}{res:List RVar}{cl cl':Ky}(hc:CLe cl cl'){n n':Nat}(hn:n<=n')(vs:List AV)(S:St):Le (Jhj a b c d h res n cl vs S) (Jhj a b c d h res n' cl' vs S):=by
 intro r hr;unfold Jhj at hr |-;have hm:=λ(b0:Nat) (c:IC) (e:KC) (S:St) (r:Ex×KC×St) (h:Qr b0 cl n c e S=some r)=>Q6 hc hn c e S _ h;split at hr
 case h_2=>cases hr
 rename_i e0 S0 h0;rw[hm _ _ _ _ _ h0];simp only;split at hr
 case h_2=>cases hr
 rename_i e1 S1 h1;rw[hm _ _ _ _ _ h1];simp only;split at hr
 ·rename_i e2 S2 h2;rw[hm _ _ _ _ _ h2];exact hr
 ·rename_i e2 S2 h2;rw[hm _ _ _ _ _ h2];simp only;split at hr
  ·rename_i e3 S3 h3;rw[hm _ _ _ _ _ h3];exact hr
  ·rename_i t v e3 S3 h3;rw[hm _ _ _ _ _ h3];simp only;split at hr
   ·rename_i x y z hx hy hz;split at hr
    ·rename_i e4 S4 h4;rw[hm _ _ _ _ _ h4];exact hr
    ·cases hr
   ·cases hr
  ·cases hr
 ·cases hr
open Classical in
def Jj2(a b c d h:IC)(res:List RVar)(cl:Ky)(vs:List AV)(S:St):Option (Res×St):=
 if hx:vs.length=1/\∃ r n,Jhj a b c d h res n cl vs S=some r then some (Classical.choose hx.2)else none
theorem Jk3{a b c d h:IC}{res:List RVar}{cl:Ky}{vs:List AV}{S:St}{r:Res×St}(hr:Jj2 a b c d h res cl vs S=some r):vs.length=1/\∃ n,Jhj a b c d h res n cl vs S=some r:=by
 unfold Jj2 at hr;split at hr
 ·rename_i hx;simp only[V]at hr;subst hr;exact⟨hx.1,BB hx.2⟩
 ·simp at hr
theorem JrU{a b c d h:IC}{res:List RVar}{cl cl':Ky}(hc:CLe cl cl'){vs:List AV}{S:St}{n:Nat}{r:Res×St}(hl:vs.length=1)(hr:Jhj a b c d h res n cl vs S=some r):Jj2 a b c d h res cl' vs S=some r:=by
 have h1:vs.length=1/\∃ r n,Jhj a b c d h res n cl' vs S=some r:=⟨hl,r,n,Jge hc (Ao n) vs S _ hr⟩
 unfold Jj2;rw[dif_pos h1];obtain⟨m,hm⟩:=BB h1.2;have e1:=Jge hc (B5 n m) vs S _ hr;have e2:=Jge (λ_ _ _ _ h=>h) (B7 n m) vs S _ hm;rw[e1]at e2;exact e2.symm
theorem Jk4(a b c d h:IC)(res:List RVar):JeN (Jj2 a b c d h res):=by intro cl cl' hc vs S r hr;obtain⟨hl,n,hn⟩:=Jk3 hr;exact JrU hc hl hn
variable {pr:Jz} {F:Nat->Option IFn}
theorem JSh(hm:Yy pr){a b c d h:IC}{res:List RVar}{f:Nat}(hf:pr f=some (Jj2 a b c d h res)){vs:List AV}(hl:vs.length=1){S:St}{Q:Res->St->Prop}
  (hx:Wx pr F S.heap.length a (Ys vs) S λx e0 S0=>x=.normal/\Wx pr F S.heap.length b e0 S0 λx e1 S1=>x=.normal/\Wx pr F S.heap.length c e1 S1 λx e2 S2=>
   (x=.ret/\fin res S.heap.length Q .ret e2 S2)\/(x=.normal/\Wx pr F S.heap.length d (keep [1,2,3,4] e2) S2 λx e3 S3=>
    (x=.ret/\fin res S.heap.length Q .ret e3 S3)\/∃ t v x2 y z,x=.panic (.iface t v)/\Jj e2 2=some x2/\Jj e2 3=some y/\Jj e2 4=some z /\
     Wx pr F S.heap.length h [(0,x2),(1,y),(2,z),(3,.iface t v)] S3 λx _e4 S4=>x=.normal/\fin res S.heap.length Q .ret [(2,x2),(3,y),(4,z)] S4)):Wp pr F f vs S Q:=by
 have ho:∀(e:KC) (S1:St),fin res S.heap.length Q .ret e S1->∃ r S',Jp9 res S.heap.length e S1=some (r,S')/\Q r S':=λe S1 h=>by
  unfold fin at h;unfold Jp9;cases hr:QT res e S1.heap with
  | none=>rw[hr]at h;exact h.elim
  | some rs=>rw[hr]at h;exact⟨_,_,rfl,h⟩
 have hex:∀{n m:Nat} {C:IC} {e:KC} {S1:St} {r:Ex×KC×St} {b0:Nat},n<=m->Qr b0 (QF pr F n) n C e S1=some r->Qr b0 (QF pr F m) m C e S1=some r:=λhnm h=>Q6 (Q0 hm hnm) hnm _ _ _ _ h;have fin_:∀(n:Nat) (r:Res) (S':St),Jhj a b c d h res n (QF pr F n) vs S=some (r,S')->Q r S'->Wp pr F f vs S Q:=λn r S' h hq=>by refine⟨n+1,r,S',?_,hq⟩;simp only[QF,hf];exact JrU (λ_ _ _ _ h=>h) hl h
 obtain⟨n0,x0,e0,S0,h0,rfl,n1,x1,e1,S1,h1,rfl,n2,x2,e2,S2,h2,hq⟩:=hx;rcases hq with⟨rfl,hq⟩ |⟨rfl,n3,x3,e3,S3,h3,hq⟩
 ·obtain⟨r,S',hr,hq⟩:=ho _ _ hq;refine fin_ (n0+n1+n2) r S' ?_ hq;unfold Jhj;rw[hex O h0];simp only;rw[hex O h1];simp only;rw[hex O h2];exact hr
 ·rcases hq with⟨rfl,hq⟩ |⟨t,v,x,y,z,rfl,hx,hy,hz,n4,x4,e4,S4,h4,rfl,hq⟩
  ·obtain⟨r,S',hr,hq⟩:=ho _ _ hq;refine fin_ (n0+n1+n2+n3) r S' ?_ hq;unfold Jhj;rw[hex O h0];simp only;rw[hex O h1];simp only;rw[hex O h2];simp only;rw[hex O h3];exact hr
  ·obtain⟨r,S',hr,hq⟩:=ho _ _ hq;refine fin_ (n0+n1+n2+n3+n4) r S' ?_ hq;unfold Jhj;rw[hex O h0];simp only;rw[hex O h1];simp only;rw[hex O h2];simp only;rw[hex O h3];simp only[hx,hy,hz];rw[hex O h4];exact hr
def Jk5:IC:=.region [[.nilp],[(.list 0 .full []),(.list 0 .full [])],[(Qz 0),(Qz 0)]] [Ql 0 1 (.box (.tmp 0)) [],Qq 1 2 (.alloc 0 [.nilp]),Qq 2 3 (.alloc 1 [(.list 0 .full []),(.list 0 .full [])]),Qq 3 4 (.alloc 2 [(Qz 0),(Qz 0)])] [1,2,3,4]
def Jk6:IC:=.region [] [Qe 0 9 2 1,Qc 1 10 55 [(.tmp 9)] [],Qm 2 8 10,Qx 3 11 8 0,Qx 4 12 8 1,Qs 5 1 2 11 [],Qs 6 2 4 12 []] [1,2,3,4]
def J0X:IC:=.region [] [Qf 0 13 0 4,Qd 1 14 13,Qv 2 15 .neq 14 (Qz 0)] [1,2,3,4,15]
def J0Y:IC:=.region [] [Qq 0 16 (.build [(.list 0 .full []),(.list 0 .full [])] []),Qe 1 17 2 4,Qw 2 (.store 1 (.tmp 2) (.const .nilp)) [1],Qs 3 2 3 16 [1],Qs 4 2 4 17 []] [2,3,4]
def J0Z:IC:=.region [] [Qf 0 19 0 1,Qd 1 20 19,Qn 2 21 20,Qk 3 22 (Qz 0)] [1,2,3,4,20,21,22]
def J00:IC:=.region [] [Qb 0 23 .lss 22 21] [1,2,3,4,20,21,22,23]
def J01:IC:=.region [[(.str []),(.bool false),(.str []),(.list 0 .full []),(.list 0 .full []),(.list 0 .full []),(.list 0 .full []),(.list 0 .full []),(Qz 0)]] [Qi 0 24 9 20 22,Qe 1 25 9 24,Qq 2 6 (.alloc 0 [(.str []),(.bool false),(.str []),(.list 0 .full []),(.list 0 .full []),(.list 0 .full []),(.list 0 .full []),(.list 0 .full []),(Qz 0)]),Qs 3 9 6 25 []] [1,2,3,4,6,20,21,22]
def J02:IC:=.region [] [Qf 0 26 0 3,Qd 1 27 26,Qd 2 28 2,Qe 3 29 9 6,Qc 4 30 77 [(.tmp 28),(.tmp 29)] [1],Qq 5 31 (.mkList 9 [(.tmp 30)]),Ql 6 32 (.append 9 168 (.tmp 27) (.tmp 31)) [],Qf 7 33 0 3,Qs 8 1 33 32 []] [1,2,3,4,20,21,22]
def J03:IC:=.region [] [Qv 0 34 .add 22 (Qz 1),Qm 1 22 34] [1,2,3,4,20,21,22]
def J04:IC:=.region [] [Qd 0 35 2,Qq 1 36 (.build [.nilp,(.str []),(.list 0 .full []),(.bool false),(.list 0 .full []),(.bool false)] [(0,1,(.tmp 35))]),Ql 2 37 (.box (.tmp 36)) [],Qm 3 7 37] [1,2,3,4,7]
def JSi:IC:=.region [] [Qm 0 38 7,Qf 1 39 1 1,Qd 2 40 39,Qc 3 41 78 [(.tmp 38),(.tmp 40)] [],Qf 4 42 1 3,Qs 5 1 42 41 []] [2,3,4]
def JSj:IC:=.region [] [Qe 0 44 2 3,Qc 1 45 55 [(.tmp 44)] [],Qm 2 43 45,Qx 3 46 43 0,Qx 4 47 43 1,Qs 5 1 2 46 [],Qs 6 2 4 47 []] [2,3,4]
def JSk:IC:=.region [] [Qd 0 48 2,Qe 1 49 2 3,Qe 2 50 2 4,Qs 3 1 2 48 [1,2],Qs 4 2 3 49 [2],Qs 5 2 4 50 []] [2,3,4]
def J05:IC:=.region [[(Qz 0),(Qz 0)]] [Qm 0 10 3,Qq 1 11 (.tassert 143 (.agg [(Qz 0),(Qz 0)]) (.tmp 10)),Qm 2 9 11,Qx 3 12 9 0,Qx 4 13 9 1,Qq 5 4 (.alloc 0 [(Qz 0),(Qz 0)]),Qs 6 2 4 12 [],Qm 7 5 13] [0,1,2,3,4,5]
def J06:IC:=.region [] [Qm 0 14 5,Qu 1 15 14] [0,1,2,3,4,15]
def J07:IC:=.region [] [Qm 0 16 3,Qw 1 (.panic (.tmp 16)) []] [0,1,2,4]
def J08:IC:=.region [] [Qq 0 17 (.build [(.list 0 .full []),(.list 0 .full [])] []),Qf 1 18 0 4,Qe 2 19 2 18,Qw 3 (.store 1 (.tmp 0) (.const .nilp)) [2],Qs 4 2 1 17 [2],Qs 5 2 2 19 []] []
def Jqa:IC:=.seq J0X (.cond (.tmp 15) (.seq J0Y .ret) .skip)
def Jqb:IC:=.seq (.seq J0Z (.block 0 (.loop [1,2,3,4,20,21,22] (.seq J00 (.seq (.cond (.tmp 23) .skip (.exit 0)) (.seq (.block 1 (.seq J01 J02)) J03)))))) (.seq J04 (.seq JSi (.seq JSj (.seq JSk .ret))))
def Jj3:IC:=.seq J05 (.seq (.seq J06 (.cond (.tmp 15) J07 .skip)) J08)
def Jce:List RVar:=[.cell 2 none,.cell 3 (some 2),.cell 4 (some 2)]
def Xc{α:Type}(x:Er α):Prop:=∀ c,x=.error c->c.1≠0
theorem Kg{α:Type}{y:α}:Xc (.ok y:Er α):=λc h=>EB
theorem Kv{α:Type}{k a:Int}(h:k≠0):Xc (Kz k a:Er α):=λc hc=>by cases hc;exact h
theorem JE{α β:Type}{x:Er α}{f:α->Er β}(h:Xc x)(hf:∀ y,x=.ok y->Xc (f y)):Xc (x.bind f):=λc hc=>by
 cases x with
 | error d=>cases hc;exact h _ rfl
 | ok y=>exact hf y rfl c hc
theorem Jk7(f:Int×Int):Xc (Jab f):=λc hc=>by
 unfold Jab at hc;split at hc
 ·cases hc
 ·rename_i h;cases hc;exact h
section
variable (cs:List Cls) (U:List (List Nat))
theorem Jk8(x:Xp)(t:Ty)(a:Int):Xc (JcV cs U x t a):=by
 unfold JcV;split
 ·exact Kg
 ·exact Kv Aj
theorem JjE(x:Xp)(n:Jk)(a:Int):Xc (XU cs x n a):=by
 unfold XU;split
 ·exact Kv Aj
 ·split
  ·exact Kg
  ·exact Kv Aj
theorem Js7(op n:Jk)(l:List Xp)(ty:List Ty)(a:Int):Xc (Jaa cs U op n l ty a):=by
 unfold Jaa;split
 ·split
  ·split
   ·exact Kg
   ·exact Kv Aj
  ·exact Kg
 ·simp only;generalize (l.all λx=>V6 (Q4 x) == _)=bb;cases bb
  ·exact Kv Aj
  ·exact Kg
theorem Js8(op n:Jk)(l:List Xp)(a:Int):Xc (JdQ cs U op n l a):=by
 unfold JdQ;simp only;split
 ·exact Kv Aj
 ·split
  ·exact Kg
  ·exact Kv Aj
theorem Jqc(r:Room)(op n:Jk)(l:List Xp)(ty:List Ty)(a:Int):Xc (YU cs U r op n l ty a):=by
 unfold YU;split
 ·refine JE (JjE cs _ _ _) λf _=>?_;split
  ·exact Kv Aj
  ·exact Kg
 ·split
  ·exact Js8 cs U _ _ _ _
  ·split
   ·split
    ·split
     ·exact Kg
     ·exact Kv Aj
    ·exact Kg
   ·split
    ·split
     ·exact Kg
     ·exact Kv Aj
    ·exact Js7 cs U _ _ _ _ _
mutual
theorem Jb6:∀(x:Xp) (r:Room),Xc (exF cs U r x)
 | .mk op n l ty a,r=>by
  rw[JpK];split
  ·exact Kv Aj
  unfold JnZ;split
  ·exact Kg
  split
  ·exact Kg
  split
  ·exact Kg
  split
  ·split
   ·exact Kv Aj
   ·exact Kg
  split
  ·split
   ·exact Kg
   ·exact Kv Aj
  split
  ·unfold Jef;split
   ·exact Kv Aj
   ·split
    ·exact Kv Aj
    ·refine JE (Jbv l r none) λl' _=>?_;split
     ·exact Kg
     ·exact Kv Aj
  split
  ·unfold JgY;refine JE (Jk7 _) λ_ _=>JE (JjF ty) λty' _=>JE (Jbv l r none) λl' _=>?_;split
   ·split
    ·exact Kg
    ·exact Kv Aj
   ·exact Kg
  ·exact JE (Jbv l r _) λl' _=>Jqc cs U r op n l' ty a
theorem Jbv:∀(l:List Xp) (r:Room) (k:Option Int),Xc (QH cs U r k l)
 | [],r,k=>by rw[QH];exact Kg
 | x::l,r,k=>by
  rw[QH];refine JE (Jb6 x r) λy _=>?_;cases k with
  | none=>exact JE (Jbv l r none) λm _=>Kg
  | some k=>
   simp only;split
   ·exact Kv Aj
   ·exact JE (Jbv l r none) λm _=>Kg
theorem Jfr:∀(t:Ty) (r:Room),Xc (tyF cs U r t)
 | .mk k n u e p a,r=>by rw[tyF];exact JE (JjF e) λe' _=>JE (JoH p _) λp' _=>Kg
theorem JjF:∀(l:List Ty),Xc (YV cs U l)
 | []=>by rw[YV];exact Kg
 | t::l=>by rw[YV];exact JE (Jfr t _) λy _=>JE (JjF l) λm _=>Kg
theorem JoH:∀(l:List Xp) (r:Room),Xc (Jec cs U r l)
 | [],r=>by rw[Jec];exact Kg
 | x::l,r=>by rw[Jec];exact JE (Jb6 x _) λy _=>JE (Jk8 cs U _ _ _) λz _=>JE (JoH l r) λm _=>Kg
end
theorem VX(r:Room)(x:Xp)(t:Ty):Xc (QQ cs U r x t):=JE (Jb6 cs U x r) λ_y _=>Jk8 cs U _ _ _
theorem Jeo:∀(l:List Xp) (r:Room),Xc (Qg cs U r l)
 | [],r=>by rw[Qg];exact Kg
 | x::l,r=>by rw[Qg];exact JE (VX cs U _ _ _) λy _=>JE (Jeo l r) λm _=>Kg
theorem Jwm(r:Room)(kind n:Jk)(ty:List Ty)(exs:List Xp)(b e:List Sm)(a:Int):Xc (Jch cs U r kind n ty exs b e a):=by
 unfold Jch;split
 ·exact Kv Aj
 split
 ·exact JE (Jk7 _) λ_ _=>JE (Jfr cs U _ _) λt _=>JE (VX cs U _ _ _) λx _=>Kg
 ·refine JE (Jb6 cs U _ _) λx _=>?_;split
  ·exact Kv Aj
  ·exact Kg
theorem Jwn(r:Room)(kind n:Jk)(ty:List Ty)(exs:List Xp)(b e:List Sm)(a:Int):Xc (Jhi cs U r kind n ty exs b e a):=by
 unfold Jhi;split
 ·exact Kv Aj
 split
 ·exact Kv Aj
 split
 ·exact Kg
 ·exact JE (VX cs U _ _ _) λx _=>Kg
mutual
theorem JrV:∀(s:Sm) (r:Room),Xc (XD cs U r s)
 | .mk kind n ty exs b e a,r=>by
  rw[XD];split
  ·exact Jwm cs U _ _ _ _ _ _ _ _
  split
  ·split
   ·exact Kv Aj
   ·split
    ·exact Kv Aj
    ·exact JE (VX cs U _ _ _) λx _=>Kg
  split
  ·refine JE (Jb6 cs U _ _) λo _=>JE (JjE cs _ _ _) λf _=>?_;split
   ·exact Kv Aj
   ·exact JE (VX cs U _ _ _) λx _=>Kg
  split
  ·refine JE (Jb6 cs U _ _) λo _=>?_;split
   ·exact Kv Aj
   ·exact JE (VX cs U _ _ _) λx _=>JE (VX cs U _ _ _) λy _=>Kg
  split
  ·exact JE (VX cs U _ _ _) λx _=>JE (Jdu b r) λb' _=>JE (Jdu e r) λe' _=>Kg
  split
  ·exact JE (VX cs U _ _ _) λx _=>JE (Jeo cs U _ _) λl _=>JE (Jdu b r) λb' _=>Kg
  split
  ·exact JE (Jwn cs U _ _ _ _ _ _ _ _) λs _=>Kg
  split
  ·exact JE (VX cs U _ _ _) λx _=>Kg
  split
  ·exact JE (VX cs U _ _ _) λx _=>Kg
  ·exact JE (Jb6 cs U _ _) λx _=>Kg
theorem Jdu:∀(l:List Sm) (r:Room),Xc (blF cs U r l)
 | [],r=>by rw[blF];exact Kg
 | s::l,r=>by rw[blF];exact JE (JrV s r) λx _=>JE (Jdu l x.2) λm _=>Kg
end
theorem Jgf:∀(l:List Par) (r:Room),Xc (XE cs U r l)
 | [],r=>by rw[XE];exact Kg
 | p::l,r=>by rw[XE];exact JE (Jfr cs U _ _) λt _=>JE (Jgf l _) λx _=>Kg
theorem Jwo(own:Room)(m:Mth):Xc (Jbp cs U own m):=by
 unfold Jbp;refine JE (Jgf cs U _ _) λx _=>JE (Jfr cs U _ _) λt _=>?_;split
 ·exact Kg
 ·refine JE (Jdu cs U _ _) λb _=>?_;split
  ·exact Kv Aj
  ·exact Kg
theorem Jgg(c:Cls):∀(l:List Sm) (r:Room) (set:List Jk),Xc (VS cs U c r set l)
 | [],r,set=>by rw[VS];exact Kg
 | .mk kind n ty exs b e a::l,r,set=>by
  rw[VS];split
  ·exact JE (JrV cs U _ _) λx _=>JE (Jgg c l x.2 set) λy _=>Kg
  ·split
   ·exact Kv Aj
   ·split
    ·exact Kv Aj
    ·exact JE (VX cs U _ _ _) λx _=>JE (Jgg c l r _) λy _=>Kg
theorem Jwp(c:Cls)(k:Ctr):Xc (Jbq cs U c k):=by
 unfold Jbq;refine JE (Jgf cs U _ _) λx _=>JE (Jbv cs U _ _ _) λs _=>?_;split
 ·exact Kv Aj
 ·refine JE (Jgg cs U c _ _ _) λy _=>?_;split
  ·exact Kv Aj
  ·exact Kg
theorem Jc5{α:Type}{f:α->Er α}(h:∀ x,Xc (f x)):∀ l:List α,Xc (QZ f l)
 | []=>by rw[QZ];exact Kg
 | x::l=>by rw[QZ];exact JE (h x) λy _=>JE (Jc5 h l) λm _=>Kg
theorem Jwq(c:Cls):Xc (Jci cs U c):=by
 unfold Jci;refine JE (Jc5 (λf=>JE (Jfr cs U _ _) λt _=>Kg) _) λfs _=>JE (Jeo cs U _ _) λis _=>?_;split
 ·exact Kv Aj
 split
 ·exact Kv Aj
 ·exact JE (Jc5 (Jwp cs U c) _) λks _=>JE (Jc5 (Jwo cs U _) _) λms _=>Kg
theorem Jwr(p:Prg):Xc (JcX cs U p):=by unfold JcX;exact JE (Jc5 (Jwq cs U) _) λl _=>JE (Jdu cs U _ _) λm _=>Kg
end
structure LibZ(pr:Jz)(F:Nat->Option IFn):Prop extends LibY pr F where
 p42:pr 42=some (Jj2 Jk5 Jk6 Jqa Jqb Jj3 Jce)
def Js9:Prg:=⟨[],[]⟩
def ckR(t:AV)(q:Prg)(f:Int×Int):Res:=.ret (.tup [t,.agg (JU q),.agg (KF f.1 f.2)])
def Jqd(H:List Blk)(rw:List Nat)(p:Prg)(r:Res)(S':St):Prop:=
 (∃ rw',(JbV p.classes (QD p.classes)).1≠0/\Rx rw rw'/\r=ckR .nilp Js9 (JbV p.classes (QD p.classes))/\S'=⟨H,rw'⟩) \/
 (JbV p.classes (QD p.classes)=(0,0)/\Few p.classes /\
  ((∃(c:Int×Int) (rw':List Nat),JcX p.classes (QD p.classes) p=.error c/\Rx rw rw'/\r=ckR .nilp Js9 c/\S'=⟨H,rw'⟩) \/
   ∃(q:Prg) (H':List Blk) (rw':List Nat) (n:Nat),JcX p.classes (QD p.classes) p=.ok q/\JjU H H'/\H.length<=n/\Rx rw rw'/\TbU H' n q.classes (QD p.classes)/\Few q.classes/\Jq8 q.classes (QD p.classes)/\r=ckR (.ptr n 0) q (0,0)/\S'=⟨H',rw'⟩))
theorem TbU.off{G G':List Blk}{n lo hi:Nat}{cs:List Cls}{U:List (List Nat)}(T:TbU G n cs U)(h:∀ k c,G[k]? = some c->k<lo\/hi<=k->G'[k]? = some c)(hn:hi<=n)(hc:∀ k,lo<=k->k<hi->∃ v,G[k]? = some (.cells v)):TbU G' n cs U:=by
 obtain⟨mb,z,zb,tg,tb,o1,o2,o3,sl,h1,h2⟩:=T;have hmb:mb<lo\/hi<=mb:=by
  by_cases h3:mb<lo
  ·exact .inl h3
  ·by_cases h4:hi<=mb
   ·exact .inr h4
   ·obtain⟨v,hv⟩:=hc mb O O;have:=h1.mp;rw[hv]at this;cases this
 refine⟨mb,z,zb,tg,tb,o1,o2,o3,sl,?_,h2⟩;exact{at_:=h _ _ h1.at_ (.inr hn),sz:=h1.sz,few:=h1.few,big:=h1.big,mp:=h _ _ h1.mp hmb,linked:=h1.linked,unlike:=h1.unlike,wt:=h1.wt,okc:=h1.okc,ulen:=h1.ulen,ups:=h1.ups,acyc:=h1.acyc,zbs:=h1.zbs}
theorem Jb7{G H:List Blk}(h:JjU G H):∃ R,H=G++R:=by
 refine⟨H.drop G.length,?_⟩;have h1:H.take G.length=G:=by
  apply Cm;intro i;by_cases hi:i<G.length
  ·rw[Bi hi,Ab hi];exact h i _ (Ab hi)
  ·rw[A5 EW,A5 O]
 conv=>lhs;rw[<- List.take_append_drop G.length H,h1]
theorem TbU.own3{H R X:List Blk}{bz A B C A' B' C':Blk}{n:Nat}{cs:List Cls}{U:List (List Nat)}(hlt:0<H.length)(T:TbU (hp H 0 bz (A::B::C::R)) n cs U)(hn:H.length+3<=n)(hA:∃ v,A=.cells v)(hB:∃ v,B=.cells v)(hC:∃ v,C=.cells v):TbU (hp H 0 bz (A'::B'::C'::(R++X))) n cs U:=by
 refine T.off (lo:=H.length) (hi:=H.length+3) (λk c hk hr=>?_) hn λk h1 h2=>?_
 ·rcases hr with hr |hr
  ·have e:∀ M:List Blk,(hp H 0 bz M)[k]? =(hp H 0 bz [])[k]?:=λM=>by have h3:=JR (b:=bz) (L:=M) hlt;rw[<- h3,Bi hr]
   rw[e]at hk |-;exact hk
  ·obtain⟨j,rfl⟩:∃ j,k=H.length+(j+3):=⟨k-H.length-3,O⟩
   rw[Vq hlt]at hk |-;exact Vj (J:=R) hk
 ·obtain⟨j,rfl⟩:∃ j,k=H.length+j:=⟨k-H.length,O⟩
  rw[Vq hlt];obtain⟨va,rfl⟩:=hA;obtain⟨vb,rfl⟩:=hB;obtain⟨vc,rfl⟩:=hC;rcases j with _ |_ |_ |j
  ·exact⟨_,rfl⟩
  ·exact⟨_,rfl⟩
  ·exact⟨_,rfl⟩
  ·omega
theorem Jdv{rs:List RVar}{t n off:Nat}{k:Option Nat}{e:KC}{H:List Blk}{v:AV}{vs:List AV}(he:Jj e t=some (.ptr n off))(hr:QT rs e H=some vs)(hl:J9 k (.ptr n off) H=some v):QT (.cell t k::rs) e H=some (v::vs):=by simp only[QT,he,hr,hl]
theorem JmB{H M:List Blk}{n:Nat}{b:Blk}{kd:Nat}{cs vs:List AV}(hlt:n<H.length)(j:Nat)(hM:M[j]? = some (.cells cs))(hc:(if 0+kd<=cs.length then some (AV.agg (Jh ((cs.drop 0).take kd)))else none)=some (.agg vs)):J9 (some kd) (.ptr (H.length+j) 0) (hp H n b M)=some (.agg vs):=by have e1:=(Vq (b:=b) (L:=M) hlt j).trans hM;simp only[J9,e1];exact hc
theorem JrW{H J:List Blk}{bz:Blk}{rw:List Nat}{c:Int×Int}{e:KC}{Q:Res->St->Prop}{bs fs:List AV}(hlt:0<H.length)(hz:H[0]? = some bz)(h2:Jj e 2=some (.ptr (H.length+0) 0))(h3:Jj e 3=some (.ptr (H.length+1) 0))(h4:Jj e 4=some (.ptr (H.length+2) 0))(hb:bs=[.list 0 .full [],.list 0 .full []])(hf:fs=KF c.1 c.2)(h:Q (ckR .nilp Js9 c) ⟨H,rw⟩) :
  fin Jce H.length Q .ret e ⟨hp H 0 bz (.cells [.nilp]::.cells bs::.cells fs::J),rw⟩:=by
 subst hb hf;have e1:QT Jce e (hp H 0 bz (.cells [.nilp]::.cells [.list 0 .full [],.list 0 .full []]::.cells (KF c.1 c.2)::J))=some [.nilp,.agg (JU Js9),.agg (KF c.1 c.2)]:=
  Jdv h2 (Jdv h3 (Jdv h4 rfl (JmB hlt 2 rfl rfl)) (JmB hlt 1 rfl rfl)) (by simp only[J9,Vq hlt];rfl)
 have hH:(hp H 0 bz (.cells [.nilp]::.cells [.list 0 .full [],.list 0 .full []]::.cells (KF c.1 c.2)::J)).take H.length=H:=by rw[JR hlt,<- Xi hz]
 exact X7 e1 rfl hH h
theorem JDr{H J:List Blk}{bz:Blk}{rw:List Nat}{n:Nat}{q:Prg}{e:KC}{Q:Res->St->Prop}(hlt:0<H.length)(h2:Jj e 2=some (.ptr (H.length+0) 0))(h3:Jj e 3=some (.ptr (H.length+1) 0))(h4:Jj e 4=some (.ptr (H.length+2) 0))(hn:H.length<=n)(h:Q (ckR (.ptr n 0) q (0,0)) ⟨hp H 0 bz (.cells [.ptr n 0]::.cells (JU q)::.cells (KF 0 0)::J),rw⟩) :
  fin Jce H.length Q .ret e ⟨hp H 0 bz (.cells [.ptr n 0]::.cells (JU q)::.cells (KF 0 0)::J),rw⟩:=by
 have hq:Jh (JU q)=JU q:=(QM _).can;have e2:QT Jce e (hp H 0 bz (.cells [.ptr n 0]::.cells (JU q)::.cells (KF 0 0)::J))=some [.ptr n 0,.agg (JU q),.agg (KF 0 0)]:=
  Jdv h2 (Jdv h3 (Jdv h4 rfl (JmB hlt 2 rfl rfl)) (JmB hlt 1 rfl (congrArg (λz=>some (AV.agg z)) hq))) (by simp only[J9,Vq hlt];rfl)
 have h5:Ai.below H.length (.tup [.ptr n 0,.agg (JU q),.agg (KF 0 0)])=false:=by have:¬ n<H.length:=O;simp[Ai.below,Ai.belowL,this]
 simp only[fin,e2,X2,Y4,h5,Jcl,Y3,Ap,AC,AT,if_false];exact h
theorem Jk9{b0:Nat}{c:IC}{e:KC}{S:St}{Q:Ex->KC->St->Prop}(h:At pr F b0 Q c [] e S):Wx pr F b0 c e S Q:=Wx.mono h.h λ_ _ _ h=>h
theorem JDs(L:LibY pr F){H J:List Blk}{bz:Blk}{rw:List Nat}{c:Int×Int}{Q:Res->St->Prop}{va b1 b2 f1 f2:AV}(hlt:0<H.length)(hz:H[0]? = some bz)(h:Q (ckR .nilp Js9 c) ⟨H,rw⟩) :
  Wx pr F H.length Jj3 [(0,.ptr (H.length+0) 0),(1,.ptr (H.length+1) 0),(2,.ptr (H.length+2) 0),(3,Xs c)] ⟨hp H 0 bz (.cells [va]::.cells [b1,b2]::.cells [f1,f2]::J),rw⟩ λx _e4 S4=>x=.normal/\fin Jce H.length Q .ret [(2,.ptr (H.length+0) 0),(3,.ptr (H.length+1) 0),(4,.ptr (H.length+2) 0)] S4:=by
 have hm:=L.hm;refine Jk9 ?_;unfold Jj3;refine' JM;exact⟨rfl,JrW (c:=c) hlt hz rfl rfl rfl rfl rfl h⟩
theorem JrX(L:LibZ pr F){p:Prg}(hok:∀ c∈p.classes,JcG c)(hst:∀(cs:List Cls) (U:List (List Nat)),Cst cs U->∀ s∈p.main,StC pr F cs U s)(hw:wL Xx p.classes+Qj p.main<=64800000)(hfew:p.classes.length<=8000)
  (H:List Blk) (rw:List Nat) (hH:0<H.length):Wp pr F 42 [.agg (JU p)] ⟨H,rw⟩ (Jqd H rw p):=by
 have hm:=L.hm;obtain⟨bz,hbz⟩:∃ b,H[0]? = some b:=⟨_,Ab hH⟩
 have hR:Rx rw rw:=Rx.rfl;obtain⟨cs,mn⟩:=p;simp only at hw hfew;obtain⟨z,tg,hz,hz2,hz3⟩:=YM (sz:=9) (rows:=cs.map Jc);have hlc:(cs.map Jc).length=cs.length:=Ak _;have hcan:Jh (JU ⟨cs,mn⟩)=JU ⟨cs,mn⟩:=(QM _).can;refine JSh hm L.p42 rfl ?_;dsimp only;refine Wx.mono (Jk9 (Q:=λx e0 S0=>x=.normal/\e0=[(1,.ptr (H.length+3) 0),(2,.ptr (H.length+0) 0),(3,.ptr (H.length+1) 0),(4,.ptr (H.length+2) 0)]/\S0=⟨hp H 0 bz [.cells [.nilp],.cells [.list 0 .full [],.list 0 .full []],.cells [.int .i64 0,.int .i64 0],.cells (JU ⟨cs,mn⟩)],rw⟩) ?_) ?_
 ·have hst:(⟨H,rw⟩:St)=⟨hp H 0 bz [],rw⟩:=by rw[<- Xi hbz]
  rw[hst];have hlt:=hH;unfold Jk5;refine' JM;exact⟨rfl,rfl,rfl⟩
 rintro x e0 S0 ⟨rfl,rfl,rfl⟩;refine⟨rfl,Jk9 ?_⟩;have hlt:=hH;have hcw:wL V1 cs<=64800000:=by have:=Jul cs;omega
 unfold Jk6;refine' JM;obtain⟨r,S',hd,hN⟩:=(JuN L.toLibF ⟨cs,mn⟩ (λc hc=>JKT (hok c hc)) hcw hfew (hp H 0 bz [.cells [.nilp],.cells [.list 0 .full [],.list 0 .full []],.cells [.int .i64 0,.int .i64 0],.cells (JU ⟨cs,mn⟩)]) rw).det hm;rcases hN with⟨f,rw2,hf0,hf,hR2,rfl,rfl⟩ |⟨H',rw2,n,mb,z5,zb,tg5,tb,U,hK,hn,hR2,T,hall,hfw,hne,rfl,rfl⟩
 ·refine Je rfl rfl rfl ?_;refine Ks hd ?_;clear hd;refine JQ ?_;refine' JM;refine⟨rfl,Jk9 ?_⟩;unfold Jqa;refine' JM;left;refine⟨rfl,?_⟩;exact JrW (c:=f) hlt hbz rfl rfl rfl rfl (KA _ _).can (.inl ⟨rw2,by rw[<- hf];exact hf0,hR2,by rw[<- hf],rfl⟩)
 ·have hU:=JlY T.ulen T.ups;have TT:TbU H' n cs U:=⟨mb,z5,zb,tg5,tb,_,_,_,_,T,rfl⟩
  obtain⟨R,hHR⟩:=Jb7 hK;rw[Jau hlt]at hHR;simp only[Aw,Au]at hHR;subst hHR;refine Je rfl rfl rfl ?_;refine Ks hd ?_;clear hd;refine JQ ?_;refine' JM;refine⟨rfl,Jk9 ?_⟩;unfold Jqa;refine' JM;right;refine⟨rfl,Jk9 ?_⟩;unfold Jqb;refine' JM;have hn3:H.length+3<=n:=by rw[XO]at hn;simp only[Ad,Af]at hn;omega
  subst hU;have C:Cst cs (QD cs):=⟨hfw,⟨λc hc=>JKT (hok c hc),hcw⟩⟩
  have T0:=TT.own3 (A':=.cells [.ptr n 0]) (B':=.cells [.list 0 .full [],.list 0 .full []]) (C':=.cells (KF 0 0)) (X:=[]) hlt hn3 ⟨_,rfl⟩ ⟨_,rfl⟩ ⟨_,rfl⟩;rw[Ar]at T0;have pan:∀(c:Int×Int) (va b1 b2 f1 f2:AV) (J:List Blk) (rw':List Nat) (e:KC),JcX cs (QD cs) ⟨cs,mn⟩=.error c->Rx rw rw'->(Ex.panic (Xs c)=Ex.ret/\fin Jce H.length (Jqd H rw ⟨cs,mn⟩) Ex.ret e ⟨hp H 0 bz (.cells [va]::.cells [b1,b2]::.cells [f1,f2]::J),rw'⟩)\/∃ t v x2 y z,Ex.panic (Xs c)=Ex.panic (AV.iface t v)/\Jj [(1,AV.ptr (H.length+3) 0),(2,AV.ptr (H.length+0) 0),(3,AV.ptr (H.length+1) 0),(4,AV.ptr (H.length+2) 0),(15,AV.bool false)] 2=some x2/\Jj [(1,AV.ptr (H.length+3) 0),(2,AV.ptr (H.length+0) 0),(3,AV.ptr (H.length+1) 0),(4,AV.ptr (H.length+2) 0),(15,AV.bool false)] 3=some y/\Jj [(1,AV.ptr (H.length+3) 0),(2,AV.ptr (H.length+0) 0),(3,AV.ptr (H.length+1) 0),(4,AV.ptr (H.length+2) 0),(15,AV.bool false)] 4=some z /\
    Wx pr F H.length Jj3 [(0,x2),(1,y),(2,z),(3,AV.iface t v)] ⟨hp H 0 bz (.cells [va]::.cells [b1,b2]::.cells [f1,f2]::J),rw'⟩ λx e4 S4=>x=Ex.normal/\fin Jce H.length (Jqd H rw ⟨cs,mn⟩) Ex.ret [(2,x2),(3,y),(4,z)] S4:=λc va b1 b2 f1 f2 J rw' e hc hr=>.inr ⟨_,_,_,_,_,rfl,rfl,rfl,rfl,JDs L.toLibY hlt hbz (.inr ⟨hne,hfw,.inl ⟨c,rw',hc,hr,rfl,rfl⟩⟩)⟩
  refine JB hm (λmm e S'=>∃(q:Nat) (done:List Cls) (J:List Blk) (lv:AV) (rw3:List Nat),S'=⟨hp H 0 bz (.cells [.ptr n 0]::.cells [lv,.list 0 .full []]::.cells (KF 0 0)::.cells (JU ⟨cs,mn⟩)::J),rw3⟩/\q<=cs.length/\done.length=q/\TbU (hp H 0 bz (.cells [.ptr n 0]::.cells [lv,.list 0 .full []]::.cells (KF 0 0)::.cells (JU ⟨cs,mn⟩)::J)) n cs (QD cs)/\Lst rw2 9 lv (done.map Jc) rw3/\Rx rw2 rw3 /\
   QZ (Jci cs (QD cs)) cs=((QZ (Jci cs (QD cs)) (cs.drop q)).bind λm=>.ok (done++m))/\mm=cs.length-q /\
   e=[(1,.ptr (H.length+3) 0),(2,.ptr (H.length+0) 0),(3,.ptr (H.length+1) 0),(4,.ptr (H.length+2) 0),(20,Kp 9 (cs.map Jc)),(21,.int .i64 ((cs.map Jc).length:Int)),(22,.int .i64 q)]) ?_ (m:=cs.length) ⟨0,[],R,_,rw2,rfl,O,rfl,T0,Lst.nil,Rx.rfl,?_,rfl,rfl⟩
  rotate_left
  ·simp only[AA,Au];cases QZ (Jci cs (QD cs)) cs <;> rfl
  clear T0 TT T;rintro mm e S' ⟨q,done,J,lv,rw3,rfl,hq0,hdl,T,hli,hR3,hod,rfl,rfl⟩;have hdl2:(done.map Jc).length=done.length:=Ak _;have T1:=λ(X:List Blk)=>T.own3 (A':=.cells [.ptr n 0]) (B':=.cells [lv,.list 0 .full []]) (C':=.cells (KF 0 0)) (X:=X) hlt hn3 ⟨_,rfl⟩ ⟨_,rfl⟩ ⟨_,rfl⟩;by_cases hq:q<cs.length
  ·obtain⟨x,hx⟩:∃ x,cs[q]? = some x:=⟨_,Ab hq⟩
   have hxr:(cs.map Jc)[q]? = some (Jc x):=E7
   have hl9:Kp 9 (cs.map Jc)=.list 9 .dead (cs.map Jc):=Kf (i:=q) O;rw[Jfq hx]at hod;have hxm:=Aq hx;have hxw:=Q3 (w:=Xx) hxm;rw[hl9];refine' JM;obtain⟨rw5,hR5,hd⟩:=Jwk L.toLibY C (T1 [.cells (Jc x)]) hxm (hok x hxm) O (rw:=rw3);refine Kk hd rfl rfl rfl ?_ ?_
   ·intro c hc;rw[hc]at hod;replace hod:QZ (Jci cs (QD cs)) cs=.error c:=hod;refine KM (pan c _ _ _ _ _ _ _ _ ?_ ((hR2.trans hR3).trans hR5));unfold JcX;rw[hod];rfl
   intro x' v hvx hc;rw[hc]at hod;change v=.agg (Jc x')at hvx;subst hvx;clear hd;replace hli:=hli.ext hR5;replace hR3:=hR3.trans hR5;refine JQ ?_;refine Qp ?_;refine Q1 rfl (vs:=[.agg (Jc x')]) rfl ?_;refine Z2 (KT x') ?_;refine JT ?_;refine JW rfl rfl rfl ?_;refine QB hli hR3 AH AH O ?_;intro l4 rw7 hl4 hR7;obtain⟨s4,t4,rfl,-,-⟩:=hl4.isL.ex;refine JQ ?_;refine' JM;refine⟨cs.length-(q+1),O,q+1,done++[x'],_,_,rw7,rfl,O,Fu,T.own3 (R:=.cells (JU ⟨cs,mn⟩)::J) (X:=[.cells (Jc x)]) hlt hn3 ⟨_,rfl⟩ ⟨_,rfl⟩ ⟨_,rfl⟩,Ek,hR7,?_,rfl,by first |rfl |(rw[hl9];rfl)⟩;rw[hod];show((QZ (Jci cs (QD cs)) (cs.drop (q+1))).bind λm=>.ok (x'::m)).bind _=_;cases QZ (Jci cs (QD cs)) (cs.drop (q+1)) <;> simp[Except.bind]
  ·rw[AU O,QZ]at hod;replace hod:QZ (Jci cs (QD cs)) cs=.ok (done++[]):=hod;rw[Ar]at hod;have hres:JcX cs (QD cs) ⟨cs,mn⟩=(blF cs (QD cs) Vy mn).bind λm=>.ok ⟨done,m⟩:=by unfold JcX;rw[hod];rfl
   have hcn1:=hli.isL.canon;obtain⟨s1,t1,rfl,-,-⟩:=hli.isL.ex;replace hR:=hR2.trans hR3;refine' JM;have hrb:(hp H 0 bz (.cells [.ptr n 0]::.cells [.list s1 t1 (done.map Jc),.list 0 .full []]::.cells (KF 0 0)::.cells (JU ⟨cs,mn⟩)::(J++[.cells (JC n Vy)])))[H.length+(J.length+4)]? = some (.cells (JC n Vy)):=Jem hlt Ag;obtain⟨v2,rw4,hi2,hR4,hd⟩:=Jga L.toLibY (l:=mn) (hst _ _ C) _ rw3 (H.length+(J.length+4)) n Vy (T1 [.cells (JC n Vy)]) hrb ⟨.inl rfl,λv hv=>Fd,λv hv=>Fd⟩ Ck O (by simp[Vy]);refine Kk hd rfl rfl rfl ?_ ?_
   ·intro c hc;exact pan c _ _ _ _ _ _ _ _ (by rw[hres,hc];rfl) (hR.trans hR4)
   intro m v hvx hc;subst hvx;rw[hc]at hres;replace hres:JcX cs (QD cs) ⟨cs,mn⟩=.ok ⟨done,m⟩:=hres;replace hi2:=hi2 m hc;clear hd;replace hR:=hR.trans hR4;have hcn2:=hi2.canon;obtain⟨s2,t2,rfl,-,-⟩:=hi2.ex;have hcc:Jh [.list s1 t1 (done.map Jc),.list s2 t2 (Jg m)]=JU ⟨done,m⟩:=by simp only[Jh,Ap,AC,hcn1,hcn2,JU]
   obtain⟨hhd,hwk,hwl⟩:=Jwe hres;simp only at hhd hwk hwl;have hne2:JbV done (QD done)=(0,0):=by rw[JoB hhd,JR7 hhd,hne]
   refine JQ ?_;refine' JM;rw[hcc];obtain⟨r,S',hd,hN⟩:=(JuN L.toLibF ⟨done,m⟩ (hwk (λc hc=>JKT (hok c hc))) Bd Bd (hp H 0 bz (.cells [.ptr n 0]::.cells [.list s1 t1 (done.map Jc),.list s2 t2 (Jg m)]::.cells (KF 0 0)::.cells (JU ⟨cs,mn⟩)::(J++[.cells (JC n Vy)]))) rw4).det hm;rcases hN with⟨f,rw5,hf0,hf,-,-,-⟩ |⟨H2,rw5,n2,mb2,z6,zb2,tg6,tb2,U2,hK2,hn2,hR5,T2,hall2,hfw2,-,rfl,rfl⟩
   ·simp only at hf;rw[hf,hne2]at hf0;exact absurd rfl hf0
   have hU2:=JlY T2.ulen T2.ups;simp only at hU2 hall2 hfw2;rw[JoB hhd]at hU2;have TT2:TbU H2 n2 done U2:=⟨mb2,z6,zb2,tg6,tb2,_,_,_,_,T2,rfl⟩
   subst hU2;obtain⟨R2,hHR⟩:=Jb7 hK2;rw[Jau hlt]at hHR;simp only[Aw]at hHR;subst hHR;have hn4:H.length+3<=n2:=by rw[XO]at hn2;simp only[Ad]at hn2;omega
   replace hR:=hR.trans hR5;refine Je rfl rfl rfl ?_;refine Ks hd ?_;clear hd;refine JQ ?_;refine' JM;rw[hcc,(KA 0 0).can];refine .inl ⟨rfl,JDr (q:=⟨done,m⟩) hlt rfl rfl rfl O ?_⟩;refine .inr ⟨hne,hfw,.inr ⟨⟨done,m⟩,_,rw5,n2,hres,?_,O,hR,TT2.own3 (X:=[]) hlt hn4 ⟨_,rfl⟩ ⟨_,rfl⟩ ⟨_,rfl⟩,hfw2,hall2,rfl,by rw[Ar]⟩⟩;rw[Ar];exact X6 hbz _
theorem JjG(L:LibZ pr F){p:Prg}(hok:JdG p)(hw:wL Xx p.classes+Qj p.main<=64800000)(hfew:p.classes.length<=8000)
  (H:List Blk) (rw:List Nat) (hH:0<H.length):Wp pr F 42 [.agg (JU p)] ⟨H,rw⟩ (Jqd H rw p):=
 JrX L hok.1 (λ_ _ C=>Jdr L.toLibY C p.main hok.2) hw hfew H rw hH
def JlI:{l:List IC // Tr.fn Tr.TT Tryz.f10 0 [[0],[0,13],[2],[0,3,4],[0,3,20],[2],[0,3,7],[0,3,7,8],[0,3,7],[0,7,11],[0,7,11,54],[2],[2]]=l}:=⟨_,AO⟩
def J2K:IC:=pk JlI.1 0
def J2L:IC:=pk JlI.1 1
def J2N:IC:=pk JlI.1 2
def J1P:IC:=pk JlI.1 3
def J2O:IC:=pk JlI.1 4
def J23:IC:=pk JlI.1 5
def J24:IC:=pk JlI.1 6
def JSN:IC:=pk JlI.1 7
def J3q:IC:=pk JlI.1 8
def J3r:IC:=pk JlI.1 9
def J10:IC:=pk JlI.1 10
def J11:IC:=pk JlI.1 11
def J12:IC:=pk JlI.1 12
def i10:IFn:=⟨1,(.seq J2K (.seq (.seq J2L (.cond (.tmp 13) (.seq J2N .ret) (.skip))) (.seq J1P (.seq (.seq J2O (.cond (.tmp 20) (.seq J23 .ret) (.skip))) (.seq J24 (.seq JSN (.seq J3q (.seq J3r (.seq (.seq J10 (.cond (.tmp 54) (.seq J11 .ret) (.skip))) (.seq J12 .ret)))))))))),[.tmp 2]⟩
theorem c10:JK Tryz.prog Tryz.f10 i10=true:=Ae
def JSO:{l:List IC // Tr.fn Tr.TT Tryz.f44 0 [[1],[1,3],[1,3,7],[1,3],[2]]=l}:=⟨_,AO⟩
def J1Q:IC:=pk JSO.1 0
def J3s:IC:=pk JSO.1 1
def J3t:IC:=pk JSO.1 2
def J3u:IC:=pk JSO.1 3
def J3v:IC:=pk JSO.1 4
def i44:IFn:=⟨1,(.seq J1Q (.seq J3s (.seq (.block 0 (.loop [1,3] (.seq (.seq J3t (.cond (.tmp 7) (.skip) (.exit 0))) (.block 1 J3u)))) (.seq J3v .ret)))),[.tmp 2]⟩
theorem c44:JK Tryz.prog Tryz.f44 i44=true:=Ae
def JwG:{l:List IC // Tr.fn Tr.TT Tryz.f80 0 [[0,1],[0,1,5],[0,1,5,9],[0,1,5,36],[4],[0,1,5],[4]]=l}:=⟨_,AO⟩
def J3x:IC:=pk JwG.1 0
def J3y:IC:=pk JwG.1 1
def J3z:IC:=pk JwG.1 2
def J3A:IC:=pk JwG.1 3
def J3W:IC:=pk JwG.1 4
def J33:IC:=pk JwG.1 5
def J4l:IC:=pk JwG.1 6
def i80:IFn:=⟨2,(.seq J3x (.seq (.seq J3y (.block 0 (.loop [0,1,5] (.seq (.seq J3z (.cond (.tmp 9) (.skip) (.exit 0))) (.seq (.block 1 (.seq J3A (.cond (.tmp 36) (.seq J3W .ret) (.skip)))) J33))))) (.seq J4l .ret))),[.tmp 4]⟩
theorem c80:JK Tryz.prog Tryz.f80 i80=true:=Ae
mutual
def Jwd(n:Jk):Sm->Bool
 | .mk _ m _ _ b e _=>(m == n || JaL n b) || JaL n e
def JaL(n:Jk):List Sm->Bool
 | []=>false
 | s::l=>Jwd n s || JaL n l
end
def nmS:Sm->Jk
 | .mk _ n _ _ _ _ _=>n
theorem JEE{k n:Jk}{ty:List Ty}{exs:List Xp}{b e:List Sm}(h:Jd2 k n ty exs b e):n.length<=40:=by
 unfold Jd2 at h;rcases h with⟨-,h,-⟩ |⟨-,h,-⟩ |⟨-,h,-⟩ |⟨-,h,-⟩ |⟨-,h,-⟩ |⟨-,h,-⟩ |⟨-,h,-⟩ |⟨-,h,-⟩
 ·exact h.len
 ·exact h.len
 ·exact h.len
 all_goals(subst h;simp)
theorem JdE:∀(n:Jk) (l:List Sm),Vf l->JaL n l=true->n.length<=40
 | _,[],_,h=>by simp[JaL]at h
 | n,.mk k m ty exs b e a::l,ho,h=>by
  simp only[Vf,Ja0]at ho;simp only[JaL,Jwd,Bp,beq_iff_eq]at h;rcases h with((rfl |h) |h) |h
  ·exact JEE ho.1.1
  ·exact JdE n b ho.1.2.2.2.1 h
  ·exact JdE n e ho.1.2.2.2.2 h
  ·exact JdE n l ho.2 h
def JbZ(k:Nat):Jk:=[115,112,97,114,101]++List.replicate k 120
theorem Jo5(k:Nat):(JbZ k).length=k+5:=by simp only[JbZ,AG,List.length_replicate,Ad,Af];omega
theorem Jwu(k:Nat):JbZ k++[120]=JbZ (k+1):=by simp[JbZ,List.replicate_succ']
theorem JEH{n:Jk}{l:List Sm}{q:Nat}{t:Sm}(h:l[q]? = some t):JaL n (l.drop q)=(Jwd n t || JaL n (l.drop (q+1))):=by obtain⟨hl,he⟩:=Ac.1 h;rw[AY hl,he,JaL]
section
variable (cs:List Cls) (U:List (List Nat))
def blR(r:Room):List Sm->Er (List Sm×Room)
 | []=>.ok ([],r)
 | s::l=>(XD cs U r s).bind λx=>(blR x.2 l).bind λy=>.ok (x.1::y.1,y.2)
end
variable {cs:List Cls} {U:List (List Nat)}
theorem J4t(l:List Sm):∀ r,blF cs U r l=(blR cs U r l).bind λx=>.ok x.1:=by
 induction l with
 | nil=>intro r;rw[blF];rfl
 | cons s l ih=>
  intro r;rw[blF,blR];cases XD cs U r s with
  | error c=>rfl
  | ok x=>simp only[Except.bind];rw[ih];cases blR cs U x.2 l <;> rfl
theorem JTH(l:List Sm)(s:Sm):∀ r,blF cs U r (l++[s])=(blR cs U r l).bind λx=>(XD cs U x.2 s).bind λy=>.ok (x.1++[y.1]):=by
 induction l with
 | nil=>
  intro r;rw[Au,blF,blR];simp only[Except.bind,Au];cases XD cs U r s with
  | error c=>rfl
  | ok x=>simp only[blF]
 | cons t l ih=>
  intro r;rw[Aw,blF,blR];cases XD cs U r t with
  | error c=>rfl
  | ok x=>
   simp only[Except.bind];rw[ih];cases blR cs U x.2 l with
   | error c=>rfl
   | ok y=>simp only[Except.bind];cases XD cs U y.2 s <;> rfl
theorem JVI{r:Room}{s:Sm}{x:Sm×Room}(h:XD cs U r s=.ok x):x.2.vars=r.vars\/∃ v:Loc,v.name=nmS s/\x.2.vars=r.vars++[v]:=by
 obtain⟨kind,n,ty,exs,b,e,a⟩:=s;by_cases hk:kind=[108,101,116]
 ·right;rw[XD,if_pos hk]at h;unfold Jch at h;split at h
  ·cases h
  split at h
  ·obtain⟨z,-,h⟩:=Jd h;obtain⟨y,-,h⟩:=Jd h;obtain⟨w,-,h⟩:=Jd h;cases h;exact⟨_,rfl,rfl⟩
  ·obtain⟨z,-,h⟩:=Jd h;split at h
   ·cases h
   ·cases h;exact⟨_,rfl,rfl⟩
 ·left;rw[Jn2 hk h]
theorem JGg{n:Jk}{l:List Loc}{v:Loc}(hv:v.name≠n):ZS n (l++[v])=ZS n l:=by unfold ZS;rw[List.reverse_append,List.reverse_singleton,List.singleton_append,List.find?_cons];show(match (v.name == n)with |true=>some v |false=>_)=_;rw[beq_eq_false_iff_ne.2 hv]
theorem JWs{n:Jk}(l:List Sm):∀{r:Room} {x:List Sm×Room},blR cs U r l=.ok x->JaL n l=false->ZS n r.vars=none->ZS n x.2.vars=none:=by
 induction l with
 | nil=>intro r x h _ hf;cases h;exact hf
 | cons s l ih=>
  intro r x h hu hf;rw[blR]at h;obtain⟨y,hy,h⟩:=Jd h;obtain⟨z,hz,h⟩:=Jd h;cases h;simp only[JaL,Bool.or_eq_false_iff]at hu;show ZS n z.2.vars=none;refine ih hz hu.2 ?_;rcases JVI hy with e |⟨v,hv,e⟩
  ·rw[e];exact hf
  ·rw[e,JGg ?_]
   ·exact hf
   ·rw[hv];obtain⟨kind,m,ty,exs,b,e2,a⟩:=s;have h1:=hu.1;simp only[Jwd,Bool.or_eq_false_iff,beq_eq_false_iff_ne]at h1;exact h1.1.1
theorem Jtl{p:Prg}{c:Int×Int}(s:Sm)(h:JcX cs U p=.error c):JcX cs U ⟨p.classes,p.main++[s]⟩=.error c:=by
 unfold JcX at h |-;cases hm:QZ (Jci cs U) p.classes with
 | error d=>rw[hm]at h;simp only[];exact h
 | ok l=>
  rw[hm]at h;simp only[Except.bind,JTH]at h |-;rw[J4t]at h;cases hb:blR cs U Vy p.main with
  | error d=>rw[hb]at h;exact h
  | ok x=>rw[hb]at h;cases h
theorem JwC{p q:Prg}(s:Sm)(h:JcX cs U p=.ok q):∃ r,(∀ n,JaL n p.main=false->ZS n r.vars=none)/\JcX cs U ⟨p.classes,p.main++[s]⟩=(XD cs U r s).bind λy=>.ok ⟨q.classes,q.main++[y.1]⟩:=by unfold JcX at h;obtain⟨l,hl,h⟩:=Jd h;obtain⟨m,hm,h⟩:=Jd h;cases h;rw[J4t]at hm;obtain⟨x,hx,hm⟩:=Jd hm;cases hm;refine⟨x.2,λn hn=>JWs p.main hx hn rfl,?_⟩;unfold JcX;simp only[hl,Except.bind,JTH];rw[hx];simp only;cases XD cs U x.2 s <;> rfl
theorem JwH{r:Room}{n:Jk}(h:ZS n r.vars=none)(a b:Int):XD cs U r (.mk [112,114,105,110,116] [] [] [.mk [118,97,114] n [] [] b] [] [] a)=.error (130,b):=by
 have hx:exF cs U r (.mk [118,97,114] n [] [] b)=.error (130,b):=by rw[exF];rw[if_neg (by simp[JcW]),if_neg Aj,if_neg Aj,if_neg Aj,if_neg Aj,if_pos rfl,h];rfl
 rw[XD];simp only[if_neg (show ¬([112,114,105,110,116]:Jk)=[108,101,116] by decide),if_neg (show ¬([112,114,105,110,116]:Jk)=[115,101,116] by decide),if_neg (show ¬([112,114,105,110,116]:Jk)=[102,105,101,108,100] by decide),if_neg (show ¬([112,114,105,110,116]:Jk)=[101,108,101,109] by decide),if_neg (show ¬([112,114,105,110,116]:Jk)=[105,102] by decide),if_neg (show ¬([112,114,105,110,116]:Jk)=[119,104,105,108,101] by decide),if_neg (show ¬([112,114,105,110,116]:Jk)=[114,101,116,117,114,110] by decide),if_neg (show ¬([112,114,105,110,116]:Jk)=[97,115,115,101,114,116] by decide),if_pos];unfold QQ nth;rw[List.getD_cons_zero,hx];rfl
def J1H(pr:Jz)(F:Nat->Option IFn)(n:Jk):Sm->Prop
 | .mk _ _ _ _ b e _=>TxOk pr F 80 [Kp 7 (Jg b),.str n] (.bool (JaL n b))/\TxOk pr F 80 [Kp 7 (Jg e),.str n] (.bool (JaL n e))
theorem Jtc(hm:Yy pr)(f80:QG pr F 80 i80){n:Jk}{l:List Sm}{s7:Nat}{tg:Tag}(hs7:l≠[]->s7=7)(hl:l.length<=64800000)(hS:∀ s∈l,J1H pr F n s):TxOk pr F 80 [.list s7 tg (Jg l),.str n] (.bool (JaL n l)):=by
 refine TxOk.of0 hm f80.1 f80.2 rfl ?_;intro H rw b hlt;have hR:Rx rw rw:=Rx.rfl;have hll:(Jg l).length=l.length:=Jd5 l;refine' JM;refine JB hm (λmm e S'=>∃(q:Nat) (J:List Blk) (rw3:List Nat),S'=⟨hp H 0 b J,rw3⟩/\Rx rw rw3/\q<=l.length/\JaL n l=JaL n (l.drop q)/\mm=l.length-q /\
  e=[(0,.list s7 tg (Jg l)),(1,.str n),(5,.int .i64 q)]) ?_ (m:=l.length) ⟨0,[],rw,rfl,Rx.rfl,O,rfl,rfl,rfl⟩
 clear hR;rintro mm e S' ⟨q,J,rw3,rfl,hR,hq0,hne,rfl,rfl⟩;by_cases hq:q<l.length
 ·obtain⟨s,hx⟩:∃ s,l[q]? = some s:=⟨_,Ab hq⟩
  have hxr:(Jg l)[q]? = some (Jp s):=by rw[Qh,Ax,hx];rfl
  obtain rfl:=hs7 (λh=>by rw[h]at hq;exact absurd hq Ag);rw[JEH hx]at hne;have hsc:=hS s (Aq hx);obtain⟨kind,m,ty,exs,b1,e1,a⟩:=s;obtain⟨hb1,he1⟩:=hsc;simp only[Jwd]at hne;have next:∀(J':List Blk) (rw4:List Nat),Rx rw rw4->JaL n l=JaL n (l.drop (q+1))->∃ m'<l.length-q,∃(q':Nat) (J:List Blk) (rw3:List Nat),(⟨hp H 0 b J',rw4⟩:St)=⟨hp H 0 b J,rw3⟩/\Rx rw rw3/\q'<=l.length/\JaL n l=JaL n (l.drop q')/\m'=l.length-q' /\
   [(0,AV.list 7 tg (Jg l)),(1,AV.str n),(5,AV.int .i64 ((q:Int)+1))]=[(0,.list 7 tg (Jg l)),(1,.str n),(5,.int .i64 q')]:=λJ' rw4 h1 h2=>⟨l.length-(q+1),O,q+1,J',rw4,rfl,h1,O,h2,rfl,rfl⟩
  by_cases k1:m=n
  ·subst k1;refine' JM;exact Js rfl rfl (JR hlt) ⟨_,hR,by rw[hne];simp,rfl⟩
  rw[beq_eq_false_iff_ne.2 k1,B3]at hne;cases hbv:JaL n b1 with
  | true=>rw[hbv]at hb1 hne;refine' JM;exact Js rfl rfl (JR hlt) ⟨_,hR,by rw[hne];simp,rfl⟩
  | false=>
   rw[hbv]at hb1;rw[hbv,B3]at hne;cases hev:JaL n e1 with
   | true=>rw[hev]at he1 hne;refine' JM;exact Js rfl rfl (JR hlt) ⟨_,hR,by rw[hne];simp,rfl⟩
   | false=>rw[hev]at he1;rw[hev,B3]at hne;refine' JM;exact next _ _ hR hne
 ·refine' JM;rw[AU O]at hne;exact Js rfl rfl (JR hlt) ⟨_,hR,Fa,rfl⟩
theorem Jqf(hm:Yy pr)(f80:QG pr F 80 i80){n:Jk}{l:List Sm}(hl:l.length<=64800000)(hS:∀ s∈l,J1H pr F n s):TxOk pr F 80 [Kp 7 (Jg l),.str n] (.bool (JaL n l)):=by
 cases l with
 | nil=>exact Jtc hm f80 (s7:=0) (tg:=.full) (λh=>absurd rfl h) hl hS
 | cons s l=>exact Jtc hm f80 (s7:=7) (tg:=.dead) (λ_=>rfl) hl hS
mutual
theorem J4u(hm:Yy pr)(f80:QG pr F 80 i80)(n:Jk):∀ s:Sm,wSm s<=64800000->J1H pr F n s
 | .mk kind m ty exs b e a,hw=>by simp only[wSm]at hw;have h1:=Jjy b;have h2:=Jjy e;exact⟨Jqf hm f80 O (Jtm hm f80 n b O),Jqf hm f80 O (Jtm hm f80 n e O)⟩
theorem Jtm(hm:Yy pr)(f80:QG pr F 80 i80)(n:Jk):∀ l:List Sm,Qj l<=64800000->∀ s∈l,J1H pr F n s
 | [],_,s,hs=>by cases hs
 | t::l,hw,s,hs=>by
  simp only[Qj]at hw;have h1:=J4u hm f80 n t O;have h2:=Jtm hm f80 n l O;rcases AS.1 hs with rfl |hs
  ·exact h1
  ·exact h2 s hs
end
theorem J1I(hm:Yy pr)(f80:QG pr F 80 i80)(n:Jk)(l:List Sm)(hw:Qj l<=64800000):TxOk pr F 80 [Kp 7 (Jg l),.str n] (.bool (JaL n l)):=
 Jqf hm f80 (by have:=Jjy l;omega) (Jtm hm f80 n l hw)
theorem JGh(hm:Yy pr)(f44:QG pr F 44 i44)(f80:QG pr F 80 i80){p:Prg}(hok:Vf p.main)(hw:Qj p.main<=64800000)(H:List Blk)(rw:List Nat):∃(k:Nat) (rw':List Nat),JaL (JbZ k) p.main=false/\k<=36/\Rx rw rw'/\Det pr F 44 [.agg (JU p)] ⟨H,rw⟩ (.ret (.str (JbZ k))) ⟨H,rw'⟩:=by
 suffices h:Wp pr F 44 [.agg (JU p)] ⟨H,rw⟩ λr S'=>∃(k:Nat) (rw':List Nat),JaL (JbZ k) p.main=false/\k<=36/\Rx rw rw'/\r=.ret (.str (JbZ k))/\S'=⟨H,rw'⟩ by obtain⟨r',S',hd,k,rw',h1,h2,h3,rfl,rfl⟩:=h.det hm;exact⟨k,rw',h1,h2,h3,hd⟩
 obtain⟨cs,mn⟩:=p;simp only at hok hw;have hu:=λn=>J1I hm f80 n mn hw;have hR:Rx rw rw:=Rx.rfl;refine Jt hm f44.1 f44.2 rfl ?_;refine Kt hm ?_;unfold J1Q;show At pr F H.length (fin _ H.length _) _ _ _ _;refine YB hm rfl ?_;intro H1 hH1 hlen hlt;refine' JM;refine JB hm (λmm e S'=>∃(k:Nat) (rw3:List Nat),S'=⟨hp H1 H.length (.cells (JU ⟨cs,mn⟩)) [],rw3⟩/\Rx rw rw3/\k<=36/\mm=36-k /\
  e=[(1,.ptr H.length 0),(3,.str (JbZ k))]) ?_ (m:=36) ⟨0,rw,rfl,Rx.rfl,O,rfl,rfl⟩
 clear hR;rintro mm e S' ⟨k,rw3,rfl,hR,hk0,rfl,rfl⟩;have hu:=hu (JbZ k);have hsl:=Jo5 k;cases huv:JaL (JbZ k) mn with
 | true=>rw[huv]at hu;have:=JdE _ mn hok huv;refine' JM;exact⟨36-(k+1),O,k+1,_,rfl,hR,O,rfl,by rw[Jwu];rfl⟩
 | false=>rw[huv]at hu;refine' JM;subst hH1;exact Js rfl rfl JZ ⟨k,_,huv,hk0,hR,rfl,rfl⟩
theorem JX0(L:LibY pr F){cs:List Cls}{U:List (List Nat)}(C:Cst cs U){x:Xp}(hx:Q7 x)(a:Int):StC pr F cs U (.mk [112,114,105,110,116] [] [] [x] [] [] a):=by intro H rw rb nt r T hrb hnr hr hv hw hrl;have hve:=J2C x;simp only[wSm,Qj,KQ,Vr]at hv hw;have h1:∀ y,XD cs U r (.mk [112,114,105,110,116] [] [] [x] [] [] a)=.ok y->y.2=r:=λy hy=>Jn2 Aj hy;rw[Js1 hrb h1];exact⟨λy hy=>by rw[h1 y hy];exact⟨hr,O,rfl⟩,JsZ L C T hrb hr O O hx⟩
def JoC(p:Prg)(s:Sm):Prg:=⟨p.classes,p.main++[s]⟩
def Jf0(n:Jk)(a b:Int):Sm:=.mk [112,114,105,110,116] [] [] [.mk [118,97,114] n [] [] b] [] [] a
def JqY(p:Prg)(g:Int×Int):Prop:=((JbV p.classes (QD p.classes)).1≠0/\g=JbV p.classes (QD p.classes))\/(JbV p.classes (QD p.classes)=(0,0)/\JcX p.classes (QD p.classes) p=.error g)
theorem JwD{H:List Blk}{rw:List Nat}{p:Prg}{r:Res}{S':St}{g:Int×Int}(h:Jqd H rw p r S')(hg:JqY p g):∃ rw',Rx rw rw'/\r=ckR .nilp Js9 g/\S'=⟨H,rw'⟩:=by
 rcases h with⟨rw',hne,hR,rfl,rfl⟩ |⟨hne,-,⟨c,rw',hc,hR,rfl,rfl⟩ |⟨q,H',rw',n,hpq,-⟩⟩
 ·rcases hg with⟨-,rfl⟩ |⟨h0,-⟩
  ·exact⟨rw',hR,rfl,rfl⟩
  ·rw[h0]at hne;exact absurd rfl hne
 ·rcases hg with⟨h0,-⟩ |⟨-,h1⟩
  ·rw[hne]at h0;exact absurd rfl h0
  ·rw[hc]at h1;cases h1;exact⟨rw',hR,rfl,rfl⟩
 ·rcases hg with⟨h0,-⟩ |⟨-,h1⟩
  ·rw[hne]at h0;exact absurd rfl h0
  ·rw[hpq]at h1;cases h1
def J4x(p q:Prg)(f:Int×Int):Prop:=(f.1≠0/\∀ s,JqY (JoC p s) f)\/(f=(0,0)/\JbV p.classes (QD p.classes)=(0,0)/\JcX p.classes (QD p.classes) p=.ok q)
theorem JGi{H:List Blk}{rw:List Nat}{p:Prg}{r:Res}{S':St}(h:Jqd H rw p r S'):∃(t:AV) (q:Prg) (f:Int×Int) (R:List Blk) (rw':List Nat),r=ckR t q f/\S'=⟨H++R,rw'⟩/\Rx rw rw'/\J4x p q f:=by
 rcases h with⟨rw',hne,hR,rfl,rfl⟩ |⟨hne,-,⟨c,rw',hc,hR,rfl,rfl⟩ |⟨q,H',rw',n,hpq,hK,-,hR,-,-,-,rfl,rfl⟩⟩
 ·exact⟨_,_,_,[],rw',rfl,by rw[Ar],hR,.inl ⟨hne,λs=>.inl ⟨hne,rfl⟩⟩⟩
 ·exact⟨_,_,_,[],rw',rfl,by rw[Ar],hR,.inl ⟨Jwr _ _ p c hc,λs=>.inr ⟨hne,Jtl s hc⟩⟩⟩
 ·obtain⟨R,rfl⟩:=Jb7 hK;exact⟨_,_,_,R,rw',rfl,rfl,hR,.inr ⟨rfl,hne,hpq⟩⟩
theorem Jq9{p q:Prg}(h0:JbV p.classes (QD p.classes)=(0,0))(h:JcX p.classes (QD p.classes) p=.ok q){n:Jk}(hn:JaL n p.main=false)(a b:Int):JqY (JoC p (Jf0 n a b)) (130,b):=by obtain⟨r,h1,h2⟩:=JwC (Jf0 n a b) h;refine .inr ⟨h0,?_⟩;show JcX p.classes (QD p.classes) ⟨p.classes,p.main++[Jf0 n a b]⟩=_;rw[h2,Jf0,JwH (h1 n hn)];rfl
theorem J14(n:Jk)(b:Int):Q7 (.mk [118,97,114] n [] [] b):=by simp only[Q7,KP,XX];exact⟨.inr (.inl ⟨rfl,rfl,trivial⟩),trivial,λ_=>trivial⟩
theorem J0i(L:LibZ pr F){p:Prg}(hok:JdG p)(hw:wL Xx p.classes+Qj p.main<=64800000)(hfew:p.classes.length<=8000){H:List Blk}{rw:List Nat}{K:AV->St->Prop}(hH:0<H.length)
  (hk:∀(t:AV) (q:Prg) (f:Int×Int) (R:List Blk) (rw':List Nat),Rx rw rw'->J4x p q f->K (.tup [t,.agg (JU q),.agg (KF f.1 f.2)]) ⟨H++R,rw'⟩):ClAt pr F 42 [.agg (JU p)] ⟨H,rw⟩ K:=by
 obtain⟨r,S',hd,hN⟩:=(JjG L hok hw hfew H rw hH).det L.hm;obtain⟨t,q,f,R,rw',rfl,rfl,hR,ho⟩:=JGi hN;exact⟨_,_,hd,hk t q f R rw' hR ho⟩
theorem J0P(L:LibZ pr F){p:Prg}{s:Sm}(hok:JdG p)(hst:∀(cs:List Cls) (U:List (List Nat)),Cst cs U->StC pr F cs U s)(hw:wL Xx p.classes+Qj p.main+wSm s<=64800000)(hfew:p.classes.length<=8000){g:Int×Int}(hg:JqY (JoC p s) g){H:List Blk}{rw:List Nat}{K:AV->St->Prop}(hH:0<H.length)
  (hk:∀ rw':List Nat,Rx rw rw'->K (.tup [.nilp,.agg (JU Js9),.agg (KF g.1 g.2)]) ⟨H,rw'⟩):ClAt pr F 42 [.agg (JU (JoC p s))] ⟨H,rw⟩ K:=by
 obtain⟨r,S',hd,hN⟩:=(JrX L (p:=JoC p s) hok.1 (λcs U C t ht=>by
  rcases AM.1 ht with h |h
  ·exact Jdr L.toLibY C p.main hok.2 t h
  ·rw[AN.1 h];exact hst cs U C) (by
  show wL Xx p.classes+Qj (p.main++[s])<=_;rw[Jne,Qj,Qj];omega) hfew H rw hH).det L.hm
 obtain⟨rw',hR,rfl,rfl⟩:=JwD hN hg;exact⟨_,_,hd,hk rw' hR⟩
theorem J1J(hm:Yy pr)(f44:QG pr F 44 i44)(f80:QG pr F 80 i80){p:Prg}(hok:Vf p.main)(hw:Qj p.main<=64800000){H:List Blk}{rw:List Nat}{K:AV->St->Prop}
  (hk:∀(k:Nat) (rw':List Nat),JaL (JbZ k) p.main=false->k<=36->Rx rw rw'->K (.str (JbZ k)) ⟨H,rw'⟩):ClAt pr F 44 [.agg (JU p)] ⟨H,rw⟩ K:=by
 obtain⟨k,rw',h1,h2,h3,hd⟩:=JGh hm f44 f80 hok hw H rw;exact⟨_,_,hd,hk k rw' h1 h2 h3⟩
theorem J1K{H M:List Blk}{n:Nat}{b:Blk}(hlt:n<H.length):hp H n b M=hp (H++M) n b []:=by unfold hp;rw[Ar,CL _ _ hlt]
theorem JKM{H M:List Blk}{n j:Nat}{c:Blk}(hlt:n<H.length)(h:M[j]? = some c):JnA (H++M) n (H.length+j) c:=by refine ZG O ?_;rw[B9 O,Nat.add_sub_cancel_left];exact h
structure LibZ10(pr:Jz)(F:Nat->Option IFn):Prop extends LibZ pr F where
 f10:QG pr F 10 i10
 f41:QG pr F 41 i41
 f44:QG pr F 44 i44
 f80:QG pr F 80 i80
theorem J4z(L:LibZ10 pr F)(haw:∀ S,Det pr F 40 [] S (.ret (.bool true)) S)(x:Jk)(H:List Blk)(rw:List Nat):Wp pr F 10 [.str x] ⟨H,rw⟩ JkQ:=by
 have hm:=L.hm;have haw:=haw ⟨H,rw⟩;refine Jt hm L.f10.1 L.f10.2 rfl ?_;generalize h7:JSN=c7;refine' VO;unfold J1P;show At pr F H.length (fin _ H.length _) _ _ _ _;refine Ku hm ?_;intro H1 hH1 hlen hlt;refine' JM;obtain⟨o,hg,hd⟩:=JiG L.toLibS L.f41 (hp H1 H.length (.cells [.list 0 .full [],.list 0 .full []]) []) rw x;obtain⟨p,ok,rw2⟩:=o;obtain⟨hR,hgood⟩:=hg;simp only at hR hgood hd;refine Je rfl rfl rfl ?_;refine Ks hd ?_;clear hd;refine JQ ?_;refine' JM;refine Kj (q:=H.length) rfl rfl (Kh hlt) ?_;refine' JM
 ·exact JcZ rfl
 have hok:ok=true:=EN
 obtain⟨hp1,hp2,hp3,hxl⟩:=hgood hok;have hp3':=BX hp3 (show 64791900<=64800000 by decide);refine Je rfl rfl rfl ?_;refine J0i L.toLibZ hp1 hp3' O Ef ?_;intro t q f R rw3 hR3 hout;rw[Jau hlt];simp only[Aw,Au];obtain⟨qs,qm⟩:=q;obtain⟨fc,fa⟩:=f;refine JQ ?_;refine' JM;rw[J1K hlt];have hF7:JnA (H1++(.cells (JU ⟨qs,qm⟩)::.cells (KF fc fa)::R)) H.length (H1.length+1) (.cells (KF fc fa)):=JKM hlt rfl;have hlt2:H.length<(H1++(.cells (JU ⟨qs,qm⟩)::.cells (KF fc fa)::R)).length:=by rw[AG];omega
 generalize H1++(.cells (JU ⟨qs,qm⟩)::.cells (KF fc fa)::R)=H2 at *;clear hlt;have hlt:=hlt2;obtain⟨cs,mn⟩:=p;simp only at hp2 hp3 hp3';have hpm:Qj mn<=64800000:=O;subst h7;replace hR:=hR.trans hR3;unfold JSN;refine' JM;refine Je rfl rfl rfl ?_;refine J1J hm L.f44 L.f80 hp1.2 hpm ?_;intro k rw4 hk1 hk2 hR4;replace hR:=hR.trans hR4;refine JQ ?_;refine' JM;have hml:=Jd5 mn;have hmw:=Jjy mn;have hsl:=Jo5 k;obtain⟨s,hs⟩:∃ s,s=Jf0 (JbZ k) ((x.length:Int)+3) ((x.length:Int)+9):=⟨_,rfl⟩
 refine JT ?_;refine JW rfl rfl rfl ?_;refine J0M (rows:=Jg mn) AH AH O ?_;intro v1 rw5 hv1 hR5;have hR0:=hR;replace hR:=hR.trans hR5;refine JQ ?_;refine' JM;refine JT ?_;refine JW (v:=.list 7 .full [Jp (Jf0 (JbZ k) ((x.length:Int)+3) ((x.length:Int)+9))]) rfl rfl rfl ?_;rw[<- hs];refine J0N hv1 hR5 AH AH O ?_;intro tg rw6 hR6;replace hR:=hR0.trans hR6;refine JQ ?_;refine' JM;refine Vh ?_;refine VG rfl rfl rfl ?_;refine J2Z (cs:=JU ⟨cs,mn⟩) hlt ⟨rfl,rfl⟩ rfl (by simp[JU]) rfl rfl ?_;refine JQ ?_;refine' JM;have hcc:Jh [Kp 9 (cs.map Jc),.list 7 tg (Jg mn++[Jp s])]=JU (JoC ⟨cs,mn⟩ s):=by simp only[Jh,Ap,AC,Jq,JsP,JU,JoC,Qh,An]
 obtain⟨gc,ga,hg,hfin⟩:∃ gc ga,JqY (JoC ⟨cs,mn⟩ s) (gc,ga)/\((fc≠0/\gc=fc/\ga=fa)\/(fc=0/\gc=130/\ga=(x.length:Int)+9)):=by
  rcases hout with⟨hne,hall⟩ |⟨hf,h0,hpq⟩
  ·exact⟨fc,fa,hall s,.inl ⟨hne,rfl,rfl⟩⟩
  ·cases hf;exact⟨_,_,by rw[hs];exact Jq9 h0 hpq hk1 _ _,.inr ⟨rfl,rfl,rfl⟩⟩
 refine YL ?_;refine XP rfl rfl ?_;refine JcE (Kh hlt) hcc rfl ?_;refine' JM;refine Je rfl rfl rfl ?_;refine J0P L.toLibZ (p:=⟨cs,mn⟩) (s:=s) hp1 (λcs' U C=>by rw[hs];exact JX0 L.toLibY C (J14 _ _) _) ?_ Bd hg Ef ?_
 ·rw[hs];simp only[Jf0,wSm,Qj,KQ,Zw,Vr,hsl,Ad,Af];omega
 intro rw7 hR7;replace hR:=hR.trans hR7;rcases hfin with⟨hne,rfl,rfl⟩ |⟨rfl,rfl,rfl⟩
 ·refine JQ ?_;refine' JM
  ·exact JcZ rfl
  ·exact absurd hq Ag
 ·refine JQ ?_;refine' JM
  ·exact JcZ rfl
  ·exact absurd hq Ag
def Jj4:{l:List IC // Tr.fn Tr.TT Tryz.f40 0 [[],[1,2],[1,13],[0],[3,4,5],[5,55],[0],[5,6],[5],[0]]=l}:=⟨_,AO⟩
def J1a:IC:=pk Jj4.1 0
def JEy:IC:=pk Jj4.1 1
def J1b:IC:=pk Jj4.1 2
def J1c:IC:=pk Jj4.1 3
def J1d:IC:=pk Jj4.1 4
def J1e:IC:=pk Jj4.1 5
def J1f:IC:=pk Jj4.1 6
def J1g:IC:=pk Jj4.1 7
def J1h:IC:=pk Jj4.1 8
def J1i:IC:=pk Jj4.1 9
def i40:IFn:=⟨0,(.seq J1a (.seq JEy (.seq (.seq J1b (.cond (.tmp 13) (.seq J1c .ret) (.skip))) (.seq J1d (.seq (.seq J1e (.cond (.tmp 55) (.seq J1f .ret) (.skip))) (.seq J1g (.seq J1h (.seq J1i .ret)))))))),[.tmp 0]⟩
theorem c40:JK Tryz.prog Tryz.f40 i40=true:=Ae
def txA:Jk:=[99,108,97,115,115,32,66,32,123,32,125,32,99,108,97,115,115,32,67,32,101,120,116,101,110,100,115,32,66,32,123,32,125,32,99,108,97,115,115,32,65,32,123,32,100,101,102,32,102,40,120,58,32,66,41,58,32,105,110,116,32,123,32,114,101,116,117,114,110,32,49,59,32,125,32,100,101,102,32,102,40,120,58,32,67,41,58,32,105,110,116,32,123,32,114,101,116,117,114,110,32,50,59,32,125,32,125,32,109,97,105,110,32,123,32,112,114,105,110,116,32,110,101,119,32,65,40,41,46,102,40,110,101,119,32,67,40,41,41,59,32,125]
def txB:Jk:=[109,97,105,110,32,123,32,112,114,105,110,116,32,116,114,117,101,59,32,125]
def JoJ(pr:Jz)(F:Nat->Option IFn)(x:Jk)(p:Prg):Prop:=∀(H:List Blk) (rw:List Nat),∃ rw',Rx rw rw'/\Det pr F 41 [.str x] ⟨H,rw⟩ (.ret (.tup [.agg (JU p),.bool true])) ⟨H,rw'⟩
theorem JDx(L:LibZ pr F)(f40:QG pr F 40 i40){p p2:Prg}(hA:JoJ pr F txA p)(hB:JoJ pr F txB p2)(hp0:JdG p)(hw:wL Xx p.classes+Qj p.main<=64800000)(hl:p.classes.length<=8000)(hp02:JdG p2)(hw2:wL Xx p2.classes+Qj p2.main<=64800000)(hl2:p2.classes.length<=8000)
  (hn:JbV p.classes (QD p.classes)=(0,0)) {qc:List Cls} {k n:Jk} {ty:List Ty} {op:Jk} {as_:List Xp} {t:Ty} {ts:List Ty} {a a2:Int} {b e:List Sm} (hq:JcX p.classes (QD p.classes) p=.ok ⟨qc,[.mk k n ty [.mk op [102,40,67,41] as_ (t::ts) a2] b e a]⟩) (ht:V6 (Q4 (.mk op [102,40,67,41] as_ (t::ts) a2))=1)
  (hn2:JbV p2.classes (QD p2.classes)=(0,0)) (hq2:JcX p2.classes (QD p2.classes) p2=.error (131,13)) (H:List Blk) (rw:List Nat):Wp pr F 40 [] ⟨H,rw⟩ JkQ:=by
 have hm:=L.hm;refine Jt hm f40.1 f40.2 rfl ?_;refine' VO;unfold JEy;show At pr F H.length (fin _ H.length _) _ _ _ _;refine Ku hm ?_;intro H1 hH1 hlen hlt;refine' JM;obtain⟨rw2,hR,hd⟩:=hA (hp H1 H.length (.cells [.list 0 .full [],.list 0 .full []]) []) rw;refine Je rfl rfl rfl ?_;refine Ks hd ?_;clear hd;refine JQ ?_;refine' JM;refine Kj (q:=H.length) rfl rfl (Kh hlt) ?_;refine' JM;obtain⟨r,S',hd,hN⟩:=(JjG L hp0 hw hl (hp H1 H.length (.cells (JU p)) [.cells [.list 0 .full [],.list 0 .full []],.cells [.int .i64 0,.int .i64 0]]) rw2 Ef).det hm;rcases hN with⟨rw3,hne,-,-,-⟩ |⟨-,-,⟨c,rw3,hc,-,-,-⟩ |⟨q,H',rw3,m,hpq,hK,hmn,hR3,-,-,-,rfl,rfl⟩⟩
 ·rw[hn]at hne;exact absurd rfl hne
 ·rw[hq]at hc;cases hc
 rw[hq]at hpq;simp only[Dh]at hpq;subst hpq;obtain⟨R,hHR⟩:=Jb7 hK;rw[Jau hlt]at hHR;simp only[Aw,Au]at hHR;subst hHR;refine Je rfl rfl rfl ?_;refine Ks hd ?_;clear hd;replace hR:=hR.trans hR3;simp only[];have htf:=Zp L.toLibW (.mk op [102,40,67,41] as_ (t::ts) a2);have hx0:(Ja [.mk op [102,40,67,41] as_ (t::ts) a2])[0]? = some (Jb (.mk op [102,40,67,41] as_ (t::ts) a2)):=rfl;have hs0:(Jg [.mk k n ty [.mk op [102,40,67,41] as_ (t::ts) a2] b e a])[0]? = some (Jp (.mk k n ty [.mk op [102,40,67,41] as_ (t::ts) a2] b e a)):=rfl;generalize hto:Q4 (.mk op [102,40,67,41] as_ (t::ts) a2)=ot at *;obtain⟨k1,n1,u1,e1,p1,a1⟩:=ot;replace ht:k1=1:=ht;subst ht;refine JQ ?_;refine' JM
 ·exact absurd rfl hq
 obtain⟨rw4,hR4,hd⟩:=hB (hp H1 H.length (.cells (JU p)) (.cells (JU ⟨qc,[.mk k n ty [.mk op [102,40,67,41] as_ (t::ts) a2] b e a]⟩)::.cells (KF 0 0)::(R++[.cells [.list 0 .full [],.list 0 .full []]]))) rwt;refine Je rfl rfl rfl ?_;refine Ks hd ?_;clear hd;refine JQ ?_;refine' JM;obtain⟨r,S',hd,hN⟩:=(JjG L hp02 hw2 hl2 (hp H1 H.length (.cells (JU p)) (.cells (JU ⟨qc,[.mk k n ty [.mk op [102,40,67,41] as_ (t::ts) a2] b e a]⟩)::.cells (KF 0 0)::(R++[.cells (JU p2)]))) rw4 Ef).det hm;rcases hN with⟨rw5,hne,-,-,-⟩ |⟨-,-,⟨c,rw5,hc,hR5,rfl,rfl⟩ |⟨q,H',rw5,m2,hpq,-⟩⟩
 ·rw[hn2]at hne;exact absurd rfl hne
 ·rw[hq2]at hc;simp only[Except.error.injEq]at hc;subst hc;refine Je rfl rfl rfl ?_;refine Ks hd ?_;clear hd;simp only[];refine JQ ?_;refine' JM;exact JcZ rfl
 ·rw[hq2]at hpq;cases hpq
def mtA(c:Jk)(k:Jk)(a b d e f g:Int):Mth:=⟨[102],[⟨[120],.mk 3 c false [] [] b,a⟩],.mk 1 [] false [] [] d,[.mk [114,101,116,117,114,110] [] [] [.mk [110,117,109] k [] [] f] [] [] e],false,g⟩
def csA:List Cls:=[⟨[66],false,[],[],[],[],[],[],6⟩,⟨[67],false,[66],[],[],[],[],[],18⟩,⟨[65],false,[],[],[],[],[],[mtA [66] [49] 50 53 57 63 70 48,mtA [67] [50] 81 84 88 94 101 79],40⟩]
def pgA:Prg:=⟨csA,[.mk [112,114,105,110,116] [] [] [.mk [99,97,108,108] [102] [.mk [110,101,119] [65] [] [] 121,.mk [110,101,119] [67] [] [] 131] [] 129] [] [] 115]⟩
def pgB:Prg:=⟨[],[.mk [112,114,105,110,116] [] [] [.mk [116,114,117,101] [] [] [] 13] [] [] 7]⟩
theorem Gk{Q:Prop}(h:Q:=by change k∈([]:List Nat)at h;cases h):Q:=h
theorem J1j:∀ i k,k∈nxt csA i->i=1/\k=0
 | 0,k,h=>Gk
 | 1,k,h=>by change k∈[0]at h;exact⟨rfl,AN.1 h⟩
 | 2,k,h=>Gk
 | i+3,k,h=>Gk
theorem upA{i k:Nat}:Up csA i k↔i=1/\k=0:=by
 constructor
 ·intro h;induction h with
  | one h=>exact J1j _ _ h
  | more h hk ih=>exact⟨ih.1,(J1j _ _ hk).2⟩
 ·rintro⟨rfl,rfl⟩;exact .one (by show 0∈[0];simp)
theorem J1k:QD csA=[[],[0],[]]:=by
 refine(JlY rfl ?_).symm;intro i l h;refine⟨(List.range 3).map λk=>decide (i=1/\k=0),rfl,λk=>?_,?_⟩
 ·rw[upA,Ax];by_cases hk:k<3
  ·rw[Dr hk];simp
  ·rw[A5 AR];simp;omega
 ·match i,h with
  | 0,h=>cases h;rfl
  | 1,h=>cases h;rfl
  | 2,h=>cases h;rfl
theorem J4D:Jhf csA=(0,0):=by
 have h:∀ i c,Jpz csA i c=(0,0):=λi c=>by unfold Jpz;rw[if_neg];rw[upA];omega
 simp only[Jhf,csA,JY]at h |-;simp[h,Xa]
theorem J4E:JbV pgA.classes (QD pgA.classes)=(0,0):=by show JbV csA (QD csA)=_;rw[J1k];unfold JbV;rw[J4D];kernel_rfl
def ckE:Er Prg->Bool
 | .ok ⟨_,[.mk _ _ _ [.mk o n l (t::ts) a] _ _ _]⟩=>n == [102,40,67,41] && V6 (Q4 (.mk o n l (t::ts) a)) == 1
 | _=>false
theorem J4F:ckE (JcX pgA.classes [[],[0],[]] pgA)=true:=Ae
theorem J1l:QD pgB.classes=[]:=rfl
theorem J4G:JbV pgB.classes (QD pgB.classes)=(0,0):=by rw[J1l];unfold JbV;rw[show Jhf pgB.classes=(0,0) from rfl];kernel_rfl
theorem J4H:JcX pgB.classes [] pgB=.error (131,13):=Ae
theorem nm1{c:UInt8}(h:K8 c.toNat=1):Nm [c]:=⟨Ag,Ag,λd hd=>by cases hd;exact h,λd hd=>by rw[AN.1 hd];exact .inl h⟩
theorem J1m{k:Jk}{e f:Int}(h:∀ c,k[0]? = some c->K8 c.toNat=2):Vf [.mk [114,101,116,117,114,110] [] [] [.mk [110,117,109] k [] [] f] [] [] e]:=by simp only[Vf,Ja0,XW,QU,X4,and_true,true_and];refine⟨.inr (.inr (.inr (.inr (.inr (.inr (.inl ⟨rfl,rfl,rfl,Ao 1,rfl,rfl⟩)))))),.inl ⟨rfl,rfl,rfl,h⟩⟩
theorem JEz{c:UInt8}{k:Jk}{a b d e f g:Int}(hc:K8 c.toNat=1)(hk:∀ c,k[0]? = some c->K8 c.toNat=2):Jnd (mtA [c] k a b d e f g):=by
 refine⟨nm1 Aj,λx hx=>?_,.inl ?_,J1m hk,λh=>EB⟩
 ·rw[AN.1 hx];refine⟨nm1 Aj,?_⟩;exact⟨.inr (.inr (.inl ⟨rfl,rfl,nm1 hc⟩)),Dk _,trivial,trivial⟩
 ·exact⟨.inl ⟨rfl,rfl,rfl,rfl⟩,Dk _,trivial,trivial⟩
theorem okA:JdG pgA:=by
 refine⟨λc hc=>?_,?_⟩
 ·simp only[pgA,csA,AS,CH,or_false]at hc;rcases hc with rfl |rfl |rfl
  ·exact⟨nm1 Aj,.inl rfl,λx hx=>El,λx hx=>El,trivial,λx hx=>El,λx hx=>El⟩
  ·exact⟨nm1 Aj,.inr ⟨nm1 Aj,rfl⟩,λx hx=>El,λx hx=>El,trivial,λx hx=>El,λx hx=>El⟩
  ·refine⟨nm1 Aj,.inl rfl,λx hx=>El,λx hx=>El,trivial,λx hx=>El,λx hx=>?_⟩;simp only[AS,CH,or_false]at hx;rcases hx with rfl |rfl
   ·exact JEz Aj (λc h=>by cases h;decide)
   ·exact JEz Aj (λc h=>by cases h;decide)
 ·simp only[pgA,Vf,Ja0,XW,QU,X4,and_true,true_and];refine⟨.inr (.inr (.inr (.inr (.inr (.inr (.inr ⟨.inr (.inl rfl),rfl,rfl,⟨_,rfl⟩,rfl,rfl⟩)))))),.inr (.inr (.inr (.inr (.inr (.inr (.inr (.inl ⟨rfl,⟨_,_,rfl⟩,rfl,nm1 Aj⟩))))))),.inr (.inr (.inr (.inr (.inl ⟨rfl,rfl,nm1 Aj⟩)))),.inr (.inr (.inr (.inr (.inl ⟨rfl,rfl,nm1 Aj⟩))))⟩
theorem okB:JdG pgB:=by refine⟨λc hc=>(by cases hc),?_⟩;simp only[pgB,Vf,Ja0,XW,QU,X4,and_true,true_and];exact⟨.inr (.inr (.inr (.inr (.inr (.inr (.inr ⟨.inr (.inl rfl),rfl,rfl,⟨_,rfl⟩,rfl,rfl⟩)))))),.inr (.inr (.inl ⟨.inl rfl,rfl,rfl,rfl⟩))⟩
theorem wtA:wL Xx pgA.classes+Qj pgA.main<=64800000:=Aj
theorem wtB:wL Xx pgB.classes+Qj pgB.main<=64800000:=Aj
variable {pr:Jz} {F:Nat->Option IFn}
theorem J4I(L:LibZ pr F)(f40:QG pr F 40 i40)(hA:JoJ pr F txA pgA)(hB:JoJ pr F txB pgB)(H:List Blk)(rw:List Nat):Wp pr F 40 [] ⟨H,rw⟩ JkQ:=by
 have h:=J4F;have hu:QD pgA.classes=[[],[0],[]]:=J1k;unfold ckE at h;split at h
 ·rename_i o l t ts a heq;simp only[Ah,beq_iff_eq]at h;obtain⟨rfl,h2⟩:=h;exact JDx L f40 hA hB okA wtA Aj okB wtB Aj J4E (by rw[hu];exact heq) h2 J4G (by rw[J1l];exact J4H) H rw
 ·cases h
def FR:Nat->Option IFn:=λn=>match n with
 | 89=>some i89
 | 90=>some i90
 | 93=>some i93
 | 95=>some i95
 | 130=>some JwW
 | 131=>some JwX
 | 132=>some JwY
 | 133=>some JwZ
 | 134=>some Jw0
 | 135=>some Jw1
 | 136=>some Jw2
 | 137=>some Jw3
 | 140=>some Jw4
 | 190=>some Jw5
 | 191=>some Jw6
 | 226=>some Jw7
 | 243=>some Jw8
 | 192=>some Jxc
 | 193=>some Jxd
 | 195=>some Jxe
 | 201=>some Jxs
 | 227=>some Jxt
 | 228=>some Jxu
 | 244=>some JxL
 | 245=>some JxM
 | 253=>some Jyh
 | 94=>some i94
 | 141=>some JyI
 | 196=>some JyN
 | 197=>some JyT
 | 194=>some JyZ
 | 139=>some Jy1
 | 138=>some Jzj
 | 91=>some i91
 | 92=>some i92
 | 51=>some i51
 | 41=>some i41
 | _=>none
def PrN:Jz:=λ_=>none
theorem JaJ:Yy PrN:=λf p h=>EB
structure Kn where
 f:Nat
 vs:List AV
 S:St
 r:Res
 T:St
def Jtd:List (Jk×AV)->List (Jk×AV)->Bool
 | [],[]=>true
 |(a,x)::l,(b,y)::m=>a == b && (AV.beq x y && Jtd l m)
 | _,_=>false
def JSo:Blk->Blk->Bool
 | .cells a,.cells b=>AV.beqL a b
 | .map a,.map b=>Jtd a b
 | _,_=>false
def Jte:List Blk->List Blk->Bool
 | [],[]=>true
 | a::l,b::m=>JSo a b && Jte l m
 | _,_=>false
def JDy(S T:St):Bool:=Jte S.heap T.heap && S.rows == T.rows
def JSp:Res->Res->Bool
 | .ret a,.ret b=>AV.beq a b
 | .panic a,.panic b=>AV.beq a b
 | _,_=>false
theorem JrY:∀{a b:List (Jk×AV)},Jtd a b=true->a=b
 | [],[],_=>rfl
 |(a,x)::l,(b,y)::m,h=>by simp only[Jtd,Ah,beq_iff_eq]at h;rw[h.1,Jaj _ _ h.2.1,JrY h.2.2]
 | [],_::_,h=>by simp[Jtd]at h
 | _::_,[],h=>by simp[Jtd]at h
theorem JDz{a b:Blk}(h:JSo a b=true):a=b:=by
 cases a <;> cases b <;> simp only[JSo,AT]at h
 ·rw[Xm _ _ h]
 ·rw[JrY h]
theorem JrZ:∀{a b:List Blk},Jte a b=true->a=b
 | [],[],_=>rfl
 | a::l,b::m,h=>by simp only[Jte,Ah]at h;rw[JDz h.1,JrZ h.2]
 | [],_::_,h=>by simp[Jte]at h
 | _::_,[],h=>by simp[Jte]at h
theorem Jr0{S T:St}(h:JDy S T=true):S=T:=by simp only[JDy,Ah,beq_iff_eq]at h;cases S;cases T;simp only at h;rw[JrZ h.1,h.2]
theorem JDA{a b:Res}(h:JSp a b=true):a=b:=by
 cases a <;> cases b <;> simp only[JSp,AT]at h
 ·rw[Jaj _ _ h]
 ·rw[Jaj _ _ h]
def Jwt(f:Nat)(vs:List AV)(S:St):List Kn->Option (Res×St)
 | []=>none
 | k::ks=>if(k.f == f && (AV.beqL k.vs vs && JDy k.S S))=true then some (k.r,k.T)else Jwt f vs S ks
def Jae(k:Kn):Prop:=∃ n,QF PrN FR n k.f k.vs k.S=some (k.r,k.T)
theorem Jlb{f:Nat}{vs:List AV}{S:St}:∀{ks:List Kn} {x:Res×St},Jwt f vs S ks=some x->∃ k∈ks,k.f=f/\k.vs=vs/\k.S=S/\x=(k.r,k.T)
 | [],x,h=>by simp[Jwt]at h
 | k::ks,x,h=>by
  simp only[Jwt]at h;split at h
  ·rename_i hc;simp only[Ah,beq_iff_eq]at hc;simp only[V]at h;exact⟨k,Bl,hc.1,Xm _ _ hc.2.1,Jr0 hc.2.2,h.symm⟩
  ·obtain⟨k',h1,h2⟩:=Jlb h;exact⟨k',A7 _ h1,h2⟩
def Jlc(ks:List Kn):Nat->Ky
 | 0=>λ_ _ _=>none
 | n+1=>λf vs S=>match Jwt f vs S ks with
  | some x=>some x
  | none=>match PrN f with
   | some p=>p (Jlc ks n) vs S
   | none=>match FR f with
    | some fn=>enter (Jlc ks n) n fn vs S
    | none=>none
theorem Jld:∀{ks:List Kn},(∀ k∈ks,Jae k)->∃ M,∀ k∈ks,QF PrN FR M k.f k.vs k.S=some (k.r,k.T)
 | [],_=>⟨0,λk h=>EB⟩
 | k::ks,h=>by
  obtain⟨M,hM⟩:=Jld (λk' hk=>h k' (A7 _ hk));obtain⟨n,hn⟩:=h k Bl;refine⟨n+M,λk' hk=>?_⟩;rcases AS.1 hk with rfl |hk
  ·exact Q0 JaJ O _ _ _ _ hn
  ·exact Q0 JaJ O _ _ _ _ (hM k' hk)
theorem JoK{ks:List Kn}{M:Nat}(h:∀ k∈ks,QF PrN FR M k.f k.vs k.S=some (k.r,k.T)):∀ n,CLe (Jlc ks n) (QF PrN FR (M+n))
 | 0=>λf vs S a ha=>by simp[Jlc]at ha
 | n+1=>by
  intro f vs S a ha;have ih:=JoK h n;rw[Jlc]at ha;dsimp only at ha;split at ha
  ·rename_i x hx;obtain⟨k,hk,rfl,rfl,rfl,rfl⟩:=Jlb hx;simp only[V]at ha;subst ha;exact Q0 JaJ O _ _ _ _ (h k hk)
  ·rw[show M+(n+1)=(M+n)+1 by omega,QF];dsimp only;split at ha
   ·rename_i p hp;rw[hp];exact JaJ f p hp _ _ ih vs S a ha
   ·rename_i hp;rw[hp];dsimp only;split at ha
    ·rename_i fn hf;rw[hf];exact Jiu ih O fn vs S a ha
    ·simp at ha
def isK(o:Option (Res×St))(k:Kn):Bool:=match o with
 | some x=>JSp x.1 k.r && JDy x.2 k.T
 | none=>false
theorem JaK{ks:List Kn}(h:∀ k∈ks,Jae k)(k:Kn){n:Nat}(hk:isK (Jlc ks n k.f k.vs k.S) k=true):Jae k:=by
 obtain⟨M,hM⟩:=Jld h;unfold isK at hk;split at hk
 ·rename_i x hx;simp only[Ah]at hk;refine⟨M+n,?_⟩;rw[JoK hM n _ _ _ _ hx];rw[<- JDA hk.1,<- Jr0 hk.2]
 ·simp at hk
end Go.Proofs.YtmeakjgbjldkdaaGreat.Ai
