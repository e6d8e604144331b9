/- A part of what is proved: Ap1, Ap2, Ap3, Ap4, Ap5, Ai14, Ai15, Ai16, Ai17, Ai18, Stp. No condition. -/
import Derived.Test.YtmeakjgbjldkdaaGreatI1
set_option maxRecDepth 100000
set_option maxHeartbeats 16000000
noncomputable section
namespace Go.Proofs.YtmeakjgbjldkdaaGreat
abbrev D4:=@Array.getElem?_push_size
abbrev AN:=@List.mem_singleton
abbrev CV:=@List.take_left
abbrev Dj:=@Array.getElem?_setIfInBounds_self_of_lt
abbrev B4:=@Option.map_none
abbrev B9:=@List.getElem?_append_right
abbrev Dk:=@Nat.zero_le
abbrev BE:=@Array.getElem?_replicate
abbrev DD:=@Bool.not_eq_false
abbrev BB:=@Classical.choose_spec
abbrev DX:=@Array.getElem?_append_left
abbrev B5:=@Nat.le_max_left
abbrev B7:=@Nat.le_max_right
abbrev Cm:=@List.ext_getElem?
abbrev Di:=@List.set_append_right
abbrev CL:=@List.set_append_left
abbrev Dt:=@List.take_set
abbrev Am:=@List.getElem?_cons_zero
abbrev DC:=@Int.toNat_natCast
abbrev Ak:=@List.length_map
abbrev CA:=@Bool.not_eq_false'
abbrev D0:=@Nat.add_assoc
abbrev Ba:=@Nat.le_of_ble_eq_true
abbrev Cz:=@List.filterMap_nil
abbrev CT:=@List.zipIdx_nil
end Go.Proofs.YtmeakjgbjldkdaaGreat
namespace Go.Proofs.YtmeakjgbjldkdaaGreat.Ai
open Go
variable {P:Program} {K:Ghost} {S:St} {w:World} {v:AV}
theorem Jln(w:World)(vs:Array Value)(t:TypeId)(o:Nat)(v:Value) :
  ({w with heap:=w.heap.push (.cells vs t (0,0))}:World).setCell ⟨w.heap.size,o,none⟩ v={w with heap:=w.heap.push (.cells (vs.setIfInBounds o v) t (0,0))}:=by
 simp only[World.setCell]
 congr 1
 apply Array.ext
 ·simp
 ·intro k h1 h2;simp only[Array.size_modify,Array.size_push]at h1;rw[Array.getElem_modify];by_cases hk:w.heap.size=k
  ·subst hk;simp
  ·rw[if_neg hk];rw[Array.getElem_push_lt O,Array.getElem_push_lt O]
theorem JjP:∀(vs:List Value) (o:Nat) (w:World) (cur:Array Value) (t:TypeId),o+vs.length<=cur.size ->
  ∃ cur':Array Value,({w with heap:=w.heap.push (.cells cur t (0,0))}:World).setCells w.heap.size o vs={w with heap:=w.heap.push (.cells cur' t (0,0))} /\
   cur'.toList=cur.toList.take o++vs++cur.toList.drop (o+vs.length)/\cur'.size=cur.size:=by
 intro vs o w cur t hle;have hb:({w with heap:=w.heap.push (.cells cur t (0,0))}:World).heap[w.heap.size]? = some (.cells cur t (0,0)):=Ag;obtain⟨cur',_,h1,h2⟩:=Wr.setCells (t:=t) vs o _ cur hb hle;have key:∀(vs:List Value) (o:Nat) (cur:Array Value),∃ c:Array Value,({w with heap:=w.heap.push (.cells cur t (0,0))}:World).setCells w.heap.size o vs={w with heap:=w.heap.push (.cells c t (0,0))}:=by
  intro vs;induction vs with
  | nil=>intro o cur;exact⟨cur,rfl⟩
  | cons v vs ih=>intro o cur;simp only[World.setCells];rw[Jln];exact ih (o+1) _
 obtain⟨c,hc⟩:=key vs o cur;obtain⟨cur2,hW,h3,h4⟩:=Wr.setCells (t:=t) vs o _ cur hb hle;have h5:=hW.block;rw[hc]at h5;simp only[D4,V,Obj.cells.injEq,and_true]at h5;subst h5;exact⟨c,hc,h3,h4⟩
theorem Jsb{t tx el e' ty:TypeId}{i:TypeInfo}{z:Value}{s0 sz by_:Nat}{tag tagb:Tag}{rows rowsb:List (List AV)}{rc:List AV}{news2:List Value}{x' y':Value}{S':St}(R:Rel K S w)(ht:P.underlying t=some (.slice el))(hi:P.info? el=some i)(hz:i.zero=some z)
  (hsz:i.size=sz) (hzs:z.cells.size=sz) (hby:i.bytes=by_) (htx:P.underlying tx=some (.slice e')) (hx:Rep K (.list s0 tag rows) x') (hy:Rep K (.list sz tagb rowsb) y') (hyl:rowsb.length=1)
  (hrc:RepL K rc news2) (hcl:rc.length=sz/\Kl rc=true) (hv:QK sz by_ (.list s0 tag rows) (.list sz .full [rc]) S=some (v,S')) :
  ∃(B o cap':Nat) (K':Ghost) (w':World) (cur:Array Value) (tt:TypeId),(Builtin.append_ #[t,tx] ty #[x',y']).run P w=.ok (.slice (some ⟨B,o,none⟩) (rows.length+1) cap') w' /\
   w'.heap[B]? = some (.cells cur tt (0,0))/\o+rows.length*sz+sz<=cur.size/\K'.g B≠none /\
   Rep K' v (.slice (some ⟨B,o,none⟩) (rows.length+1) cap')/\Rel K' S' (w'.setCells B (o+rows.length*sz) news2)/\S'.heap=S.heap/\∀ X,Step K X w K' (w'.setCells B (o+rows.length*sz) news2):=by
 have hn2:news2.length=sz:=by rw[hrc.length];exact hcl.1
 unfold QK at hv;simp only[List.cons_ne_nil,if_false,Ad,Af,AF]at hv;split at hv
 ·rename_i hcond;obtain⟨-,hs0,hb1,hb2,hszp⟩:=hcond;unfold Ji at hb1 hb2;obtain⟨news,hs,hrn⟩:=JoR (size:=i.size) R htx hy (.inr O);rw[hyl]at hs;have hnl:=hs.newsLen;rw[hsz,CK]at hnl;have hx':=hx;simp only[Rep]at hx';obtain⟨base,cap,rfl,hlc,hall,hr⟩:=hx';have hall':∀ r∈rows++[rc],r.length=sz/\Kl r=true:=by
   intro r hr';rcases AM.1 hr' with h |h
   ·rcases hs0 with h' |h'
    ·subst h';cases h
    ·rw[<- h'];exact hall r h
   ·rw[AN]at h;subst h;exact hcl
  obtain⟨olds,hold,hro,holdl⟩:∃ olds,(∀ w1:World,(∀ k,w1.heap[k]? = w.heap[k]?)->(Builtin.firstCells i.size rows.length (.slice base rows.length cap)).run P w1=.ok olds.toArray w1)/\RepLL K rows olds/\olds.length=rows.length*sz:=by
   rcases hr with⟨rfl,rfl,rfl⟩ |⟨B,o,vs,rfl,hf,hrl,_⟩
   ·exact⟨[],λw1 _=>by simpa using run_firstCells_none w1 i.size 0 0 0,Da,Ag⟩
   ·have hl:=(RepLL.flat.1 hrl).length;have hfl:rows.flatten.length=rows.length*sz:=by
     rcases hs0 with h' |h'
     ·subst h';simp
     ·rw[VH rows (λr hr'=>(hall r hr').1),h']
    refine⟨vs,λw1 hw1=>?_,hrl,O⟩;refine run_firstCells_some w1 i.size rows.length ⟨B,o,none⟩ rows.length cap vs (by rw[hsz];omega) (λj u hj=>?_);rw[Ya];have:=R.fix_cell hf j u hj;rw[World.cell?_of_block (w:=w) (hw1 B)];exact this
  have hcat:RepL K (rows++[rc]).flatten (olds++news2):=by rw[Ds];refine(RepLL.flat.1 hro).append ?_;simpa using hrc
  have newrow:∀(b E:Nat) (S1:St),S1.heap=S.heap->(∀(b r:Nat),S.rows[b]? = some r->∃ r':Nat,S1.rows[b]? = some r'/\r<=r')->S1.rows[b]? = some E->cap<rows.length+1 ->
    ∃(B o cap':Nat) (K':Ghost) (w':World) (cur:Array Value) (tt:TypeId),(Builtin.append_ #[t,tx] ty #[.slice base rows.length cap,y']).run P w=.ok (.slice (some ⟨B,o,none⟩) (rows.length+1) cap') w' /\
     w'.heap[B]? = some (.cells cur tt (0,0))/\o+rows.length*sz+sz<=cur.size/\K'.g B≠none /\
     Rep K' (.list sz (.row b E) (rows++[rc])) (.slice (some ⟨B,o,none⟩) (rows.length+1) cap')/\Rel K' S1 (w'.setCells B (o+rows.length*sz) news2)/\S1.heap=S.heap/\∀ X,Step K X w K' (w'.setCells B (o+rows.length*sz) news2):=by
   intro b E S1 h1 h2 h3 hcap;have hrun:=run_append_grow_src w t tx ty el i z ht hi hz base rows.length cap olds (hold w.drew (λ_=>rfl)) y' 1 news hs hcap O (by
    have h4:=Jgp (rows.length+1) cap hcap;have h5:Builtin.nextslicecap (rows.length+1) cap*i.bytes<=(4*(rows.length+1)+4096)*i.bytes:=BV _ h4;have h6:(4*(rows.length+1)+4096)*i.bytes<=(4100*(rows.length+1))*i.bytes:=BV _ O;have h7:(4100*(rows.length+1))*i.bytes=4100*((rows.length+1)*i.bytes):=by rw[Nat.mul_assoc]
    have h8:(rows.length+1)*i.bytes<=17179869184:=by rw[hby];exact hb1
    omega)
   have hR:Rel K S w.drew:=⟨R.dom,R.inj,R.sep,R.cells,R.maps,R.rows,R.grow⟩
   have hge:=grownCap_ge w (rows.length+1) cap el;generalize hgc:grownCap w (rows.length+1) cap el=gc at hrun hge;have hcs:((olds++news).toArray++Builtin.zeroCells z.cells (gc-(rows.length+1))).size=gc*sz:=by
    rw[Array.size_append,size_zeroCells,hzs];have hm:(rows.length+1)*sz=rows.length*sz+sz:=by rw[Bs,CK]
    have hm2:gc*sz=(rows.length+1)*sz+(gc-(rows.length+1))*sz:=by rw[<- Bs];congr 1;omega
    have hl2:(olds++news).toArray.size=rows.length*sz+sz:=by simp[holdl,hnl]
    rw[hl2];omega
   have hroom:rows.length*sz+sz<=gc*sz:=by have:(rows.length+1)*sz<=gc*sz:=BV _ hge;rw[Bs,CK]at this;exact this
   obtain⟨cur',hset,hcl',hcs'⟩:=JjP news2 (rows.length*sz) w.drew ((olds++news).toArray++Builtin.zeroCells z.cells (gc-(rows.length+1))) el (by rw[hn2,hcs];exact hroom);have hpre:cur'.toList.take (olds++news2).length=olds++news2:=by
    rw[hcl',Array.toList_append];have e1:List.take (rows.length*sz) ((olds++news).toArray.toList++(Builtin.zeroCells z.cells (gc-(rows.length+1))).toList)=olds:=by simp only[BG];rw[<- holdl,CV]
    rw[e1,CV]
   obtain⟨K',hg,ha,hm,R',hst⟩:=Rel.more_new hR h1 h2 cur' el (olds++news2) b E sz hpre h3;have hst0:∀ X,Step K X w K w.drew:=λX=>⟨Ext.refl K,rfl,rfl,rfl,Ao _,λ_ _ _ _=>rfl,λ_ _ h1 h2=>⟨h1,h2⟩,λ_ _ h=>h,λ_ x h=>.inl ⟨x,h⟩⟩
   have hstx:∀ X,Step K X w K' _:=λX=>(hst0 X).trans (hst X) (λ_ h=>h);have hg':K'.g w.heap.size=some (olds++news2):=hg;have ha':K'.a w.heap.size=some (b,E,sz,cur'.size):=ha;have hset':(w.drew.alloc (.cells ((olds++news).toArray++Builtin.zeroCells z.cells (gc-(rows.length+1))) el)).setCells w.heap.size (0+rows.length*sz) news2={w.drew with heap:=w.drew.heap.push (.cells cur' el (0,0))}:=by rw[AF];exact hset
   refine⟨w.heap.size,0,gc,K',_,_,el,hrun,(show(w.drew.heap.push (.cells ((olds++news).toArray++Builtin.zeroCells z.cells (gc-(rows.length+1))) el (0,0)))[w.drew.heap.size]? = _ from D4),by rw[AF,hcs];exact hroom,by rw[hg'];simp,?_,by rw[hset'];exact R',h1,λX=>by rw[hset'];exact hstx X⟩;simp only[Rep];refine⟨_,gc,by rw[AG];rfl,by rw[AG];exact hge,hall',.inr ⟨w.heap.size,0,olds++news2,rfl,⟨olds++news2,hg',by rw[AA,AB (Ao _)]⟩,?_,?_⟩⟩
   ·rw[RepLL.flat];exact RepL.ext (hstx (λ_=>False)).ext _ _ hcat
   ·refine⟨λx hx=>(by cases(show K'.a w.heap.size=_ from ha').symm.trans hx;rfl),⟨_,ha',rfl⟩,λ_=>?_⟩;refine⟨E,_,olds++news2,ha',hg',Ao _,?_,?_⟩
    ·rw[AG,AG,holdl,hn2,Cv];simp only[Ad,Af,AF,Bs,CK];omega
    ·rw[hcs',hcs];omega
  split at hv
  ·
   simp only[V,AP]at hv;obtain⟨rfl,rfl⟩:=hv;refine newrow _ _ _ rfl (λb r hbr=>?_) Ag ?_
   ·have:=(Ac.1 hbr).1;exact⟨r,by simp only;rw[AZ this];exact hbr,Ao _⟩
   ·rcases hr with⟨rfl,rfl,rfl⟩ |⟨B,o,vs,rfl,hf,hrl,ht'⟩
    ·simp
    ·have:=ht'.2;simp only[Ghost.tagIn]at this;omega
  ·
   rename_i b en;split at hv
   ·rename_i hc2;obtain⟨hs0',hSr⟩:=hc2;simp only[V,AP]at hv;obtain⟨rfl,rfl⟩:=hv;have hb:=(Ac.1 hSr).1;by_cases hroom:rows.length+1<=cap
    ·rcases hr with⟨rfl,rfl,rfl⟩ |⟨B,o,vs,rfl,hf,hrl,ht'⟩
     ·simp at hroom
     ·subst hs0';have hlt:rows.length<cap:=O;obtain⟨E,size,l,ha,hg,hle,hll,hsize⟩:=ht'.2.2 hlt;obtain⟨l1,hg1,⟨us,t',hw,hus⟩,r,hr',hEr⟩:=R.grow B b E s0 size ha;rw[hSr]at hr';cases hr';have hEe:E=en:=O;subst hEe;rw[Cv,Nat.zero_mul,AE]at hll;have hmul:(rows.length+1)*s0=rows.length*s0+s0:=by rw[Bs,CK]
      have hcapm:(rows.length+1)*s0<=cap*s0:=BV _ hroom;obtain⟨cur0,hW0,hl0,hsz0⟩:=Wr.setCells (B:=B) (t:=t') news (o+rows.length*s0) w us hw O;obtain⟨cur',hW1,hl1',hsz'⟩:=Wr.setCells (B:=B) (t:=t') news2 (o+rows.length*s0) _ cur0 hW0.block O;have hW:Wr w ((w.setCells B (o+rows.length*s0) news).setCells B (o+rows.length*s0) news2) B cur' t':=
       ⟨hW1.os.trans hW0.os,hW1.tape.trans hW0.tape,hW1.output.trans hW0.output,hW1.size.trans hW0.size,hW1.block,λk hk=>(hW1.other k hk).trans (hW0.other k hk)⟩
      have hrun:=run_append_room_src w t tx ty el i ht hi B o rows.length cap y' 1 news hs hroom (λj hj=>by rw[Y5 hw];simp;rw[hsz];omega) (λj hj=>Jda hw _);rw[hsz]at hrun;obtain⟨us2,t2,hw2,ht2⟩:=R.rows B l hg;rw[hw]at hw2;simp only[V,Obj.cells.injEq]at hw2;obtain⟨rfl,rfl,_⟩:=hw2;obtain⟨K',hg',ha',R',hst⟩:=R.more (n:=1) (new:=news2) hg ha hSr O hW (by
       rw[hl1',hl0,<- hll];have hlen:(us.toList.take l.length).length=l.length:=by rw[ht2]
       have e1:List.take l.length (us.toList.take l.length++news++us.toList.drop (l.length+news.length))=l:=by rw[BG,BM (by rw[hlen];exact Ao _),AB (by rw[hlen];exact Ao _),ht2]
       rw[e1,BM (by rw[AG];omega),AB (by rw[AG];omega)]) O
      refine⟨B,o,cap,K',_,cur0,t',hrun,hW0.block,O,by rw[hg'];simp,?_,R',rfl,hst⟩;have hext:=(hst (λ_=>False)).ext;simp only[Rep];refine⟨_,cap,by rw[AG];rfl,by rw[AG];exact hroom,hall',.inr ⟨B,o,olds++news2,rfl,?_,?_,?_⟩⟩
      ·obtain⟨l0,hg0,hl0⟩:=hf;rw[hg]at hg0;cases hg0;refine⟨l++news2,hg',?_⟩;have hvl:vs.length=rows.length*s0:=by rw[(RepLL.flat.1 hrl).length,VH rows (λr hr'=>(hall r hr').1)]
       have hvo:vs=olds:=by have h1:=hold w (λ_=>rfl);have h2:=run_firstCells_some (P:=P) w i.size rows.length ⟨B,o,none⟩ rows.length cap vs (by rw[hsz];exact hvl) (λj u hj=>by rw[Ya];exact R.fix_cell ⟨l,hg,hl0⟩ j u hj);rw[h1]at h2;simp only[CS,and_true]at h2;have:=congrArg Array.toList h2;simpa using this.symm
       rw[<- hvo,CN O,AG];have hdl:(l.drop o).length=vs.length:=AR;rw[CG,<- hdl,AB O];have:l.drop o=vs:=by rw[<- hl0,AB O]
       rw[this]
       congr 1
       rw[AB O]
      ·rw[RepLL.flat];exact RepL.ext hext _ _ hcat
      ·refine⟨λx hx=>by rw[ha']at hx;cases hx;rfl,⟨_,ha',rfl⟩,λhlt2=>?_⟩;refine⟨E+1,size,l++news2,ha',hg',O,?_,hsize⟩;rw[AG,AG,hll,hn2,Cv];simp only[Ad,Af,AF,hmul];omega
    ·refine newrow _ _ _ rfl (λb' r hbr=>?_) (by simp only;rw[A3 hb]) O;by_cases hbb:b'=b
     ·subst hbb;rw[hSr]at hbr;cases hbr;exact⟨_,by simp only;rw[A3 hb],O⟩
     ·exact⟨r,by simp only;rw[Bf (λh=>hbb h.symm)];exact hbr,Ao _⟩
   ·simp at hv
  ·simp at hv
  ·simp at hv
 ·simp at hv
variable {P:Program} {K:Ghost} {S:St} {w:World} {v:AV}
def Y7(it:Item):Bool:=
 it.guard == none && match it.op with
 | .q (.mov _) |.q (.nilCheck _) |.q (.fieldAddr _ _)=>true
 | .l (.store _ _ _) _=>it.dst == none
 | _=>false
theorem Jtu{q:QOp}{o:Oper}{e:V8}{a:Act}{H:List Blk}{base:Nat}(hq:(match q with |.mov _ |.nilCheck _ |.fieldAddr _ _=>true |_=>false)=true)(hc:JoQ P o.op q=true)(E:EnvRep K e a.tmps)(hv:QY q e H base=some v) :
  ∃ u,Rep K v u/\∀ w:World,(execOp a.eval o).run P w=.ok (.value u) w:=by
 obtain⟨dst,op,type,pos,after,guard⟩:=o;simp only at hc;cases q <;> simp only[AT]at hq
 case mov x=>
  cases op <;> simp only[JoQ,AT]at hc
  ·simp only[QY]at hv;exact⟨_,JA E hc hv,λw=>by simp[execOp]⟩
  ·simp only[QY]at hv;exact⟨_,JA E hc hv,λw=>by simp[execOp]⟩
 case nilCheck x=>
  cases op <;> simp only[JoQ,AT]at hc
  simp only[QY]at hv;split at hv
  ·rename_i n o hx;have hr:=JA E hc hx;simp only[V]at hv;subst hv;have hr':=hr;simp only[Rep]at hr';obtain⟨B,_,hb⟩:=hr';exact⟨_,hb ▸ hr,λw=>by simp[execOp,hb]⟩
  ·rename_i cs hx;have hr:=JA E hc hx;simp only[V]at hv;subst hv;have hr':=hr;simp only[Rep]at hr';obtain⟨B,o,vs,hb,_⟩:=hr';exact⟨_,hb ▸ hr,λw=>by simp[execOp,hb]⟩
  ·simp at hv
 case fieldAddr off x=>
  cases op <;> simp only[JoQ,AT]at hc
  rename_i T y f;split at hc
  ·rename_i fd hs;simp only[Ah,beq_iff_eq]at hc;obtain⟨⟨h1,h2⟩,h3⟩:=hc;split at h2
   ·rename_i i hi;have key:∀ B o,a.eval y=.pointer (some ⟨B,o,none⟩)->∀ w:World,(execOp a.eval {dst:=dst,op:=.fieldAddr T y f,type:=type,pos:=pos,after:=after,guard:=guard}).run P w=.ok (.value (.pointer (some ⟨B,o+off,none⟩))) w:=by
     intro B o hy w;obtain⟨fs,hu,hfd⟩:=JaW hs;have hz:i.size≠0:=by simpa using h2
     simp only[execOp,hy,Instr.fieldAt,A6,run_underlying hu,AW,hfd,Instr.sureAddr,Bg,fieldPlace,VU hi];rw[if_neg hz];simp[Ya,h1]
    simp only[QY]at hv;split at hv
    ·rename_i n o hx;have hr:=JA E h3 hx;obtain⟨v',g1,g2⟩:=JaN (P:=P) (w:=(default:World)) hs h1 hi (by simpa using h2) hr hv;have hr':=hr;simp only[Rep]at hr';obtain⟨B,_,hb⟩:=hr';have hk:=key B o hb default;simp only[execOp,A6,g1,AW,Bg,CS,Next.value.injEq,and_true]at hk;exact⟨_,hk ▸ g2,key B o hb⟩
    ·rename_i cs hx;have hr:=JA E h3 hx;obtain⟨v',g1,g2⟩:=JaN (P:=P) (w:=(default:World)) hs h1 hi (by simpa using h2) hr hv;have hr':=hr;simp only[Rep]at hr';obtain⟨B,o,vs,hb,_⟩:=hr';have hk:=key B o hb default;simp only[execOp,A6,g1,AW,Bg,CS,Next.value.injEq,and_true]at hk;exact⟨_,hk ▸ g2,key B o hb⟩
    ·simp at hv
   ·simp at h2
  ·simp at hc
theorem Jlo{w:World}{B o B2 o2:Nat}{v v2:Value}(h:B≠B2):(w.setCell ⟨B,o,none⟩ v).setCell ⟨B2,o2,none⟩ v2=(w.setCell ⟨B2,o2,none⟩ v2).setCell ⟨B,o,none⟩ v:=by
 simp only[World.setCell]
 congr 1
 apply Array.ext
 ·simp
 ·intro k h1 h2;simp only[Array.getElem_modify];by_cases hk:B2=k
  ·subst hk;simp[h]
  ·by_cases hk2:B=k
   ·subst hk2;simp[hk]
   ·simp[hk,hk2]
theorem Jcx{B B2 o2:Nat}{v2:Value}(h:B≠B2):∀(vs:List Value) (o:Nat) (w:World),(w.setCells B o vs).setCell ⟨B2,o2,none⟩ v2=(w.setCell ⟨B2,o2,none⟩ v2).setCells B o vs
 | [],_,_=>rfl
 | v::vs,o,w=>by simp only[World.setCells];rw[Jcx h vs (o+1),Jlo h]
theorem JdF{B B2:Nat}(h:B≠B2)(o:Nat)(vs:List Value):∀(us:List Value) (o2:Nat) (w:World),(w.setCells B o vs).setCells B2 o2 us=(w.setCells B2 o2 us).setCells B o vs
 | [],_,_=>rfl
 | u::us,o2,w=>by simp only[World.setCells];rw[Jcx h,JdF h o vs us]
theorem EnvRep.other{e:KC}{a:Act}(E:EnvRep K (Jj e) a.tmps){d:Nat}{u:Value}(h:Jj e d=none):EnvRep K (Jj e) (a.put (some d) u).tmps:=by
 intro t v hv;obtain⟨h1,h2⟩:=E t v hv;have hne:d≠t:=λhd=>by rw[hd,hv]at h;cases h
 simp only[Act.put];refine⟨by simpa using h1,?_⟩;rw[AX,BS hne,<- AX];exact h2
theorem Jsc{b0 base nt N:Nat}{cl:Ky}{ops:Array Oper}{it:Item}{a:Act}{e e':KC}{r:Option AV}{S':St}{B o:Nat}{vs:List Value}{cur:Array Value}{tt:TypeId}(hl:Y7 it=true)(hc:VM P ops nt it=true)
  (R:Rel K S (w.setCells B o vs)) (hW:w.heap[B]? = some (.cells cur tt (0,0))) (hroom:o+vs.length<=cur.size) (hg:K.g B≠none) (E:EnvRep K (Jj e) a.tmps) (hnt:nt<=a.tmps.size) (hs:YR b0 cl base it e S=some (r,e',S')) :
  r=none/\∃ u w1,(∀(Kont:Act->World->Prop) Q,Kont (a.put it.dst u) w1->wpOp P ops Q it.ix Kont a w)/\Rel K S' (w1.setCells B o vs)/\EnvRep K (Jj e') (a.put it.dst u).tmps/\w1.heap[B]? = some (.cells cur tt (0,0)) /\
   Step K (λn=>n<N) (w.setCells B o vs) K (w1.setCells B o vs)/\Keeps b0 S S':=by
 unfold VM at hc;split at hc
 ·rename_i oo ho;simp only[Ah,beq_iff_eq]at hc;obtain⟨⟨⟨h1,h2⟩,h3⟩,h4⟩:=hc;have hd:∀ t,it.dst=some t->t<a.tmps.size:=λt ht=>by rw[ht]at h2;simp only[decide_eq_true_eq]at h2;omega
  simp only[Y7,Ah,beq_iff_eq]at hl;obtain⟨hgd,hl⟩:=hl;have hwant:Region.wanted oo (yielded ops a.tmps)=true:=Jas h3 E (by rw[hgd];rfl);have hw0:wanted it.guard (Jj e)=some true:=by rw[hgd];rfl
  unfold YR at hs;rw[hw0]at hs;simp only at hs;have fin:∀(u:Value) (w1:World) (nx:Next),(execOp a.eval oo).run P w=.ok nx w1->(nx=.value u\/(nx=.skip/\u=Go.undef))->∀(Kont:Act->World->Prop) Q,Kont (a.put it.dst u) w1->wpOp P ops Q it.ix Kont a w:=by
   intro u w1 nx hrun hnx Kont Q hk;unfold wpOp;simp only[ho,hwant,if_true];left;unfold Oper.wp;rw[hrun];rcases hnx with rfl |⟨rfl,rfl⟩
   ·rw[Oper.upon_value,h1];exact hk
   ·rw[Oper.upon_skip,h1];exact hk
  split at hs
  ·rename_i q hq;rw[hq]at h4 hl;simp only at h4;split at hs
   ·rename_i v hv;simp only[V,AP]at hs;obtain⟨rfl,rfl,rfl⟩:=hs;obtain⟨u,hr,hrun⟩:=Jtu (q:=q) (by cases q <;> first |rfl |simp at hl) h4 E hv
    exact⟨rfl,u,w,fin u w _ (hrun w) (.inl rfl),R,E.put hr it.dst hd,hW,Step.refl _ _ _,KY _ _⟩
   ·simp at hs
  ·rename_i l re hlop;rw[hlop]at h4 hl;simp only at h4;cases l <;> simp only[AT,beq_iff_eq]at hl
   rename_i k x' y';split at hs
   ·rename_i v S1 hv;simp only[V,AP]at hs;obtain⟨rfl,rfl,rfl⟩:=hs;obtain⟨odst,op,type,pos,after,guard⟩:=oo;simp only at h4;cases op <;> simp only[JwQ,AT,Ah]at h4
    rename_i T x y;obtain⟨⟨g1,g2⟩,g3⟩:=h4;split at g1
    ·rename_i i hi;simp only[beq_iff_eq]at g1;simp only[XN]at hv;split at hv
     ·rename_i n off u hx hy;split at hv
      ·rename_i cs hb;split at hv
       ·rename_i hcond;obtain⟨c1,c2,c3,c4⟩:=hcond;simp only[V,AP,Res.ret.injEq]at hv;obtain⟨rfl,rfl⟩:=hv;have hp:=JA E g2 hx;have hxr:=JA E g3 hy;obtain⟨w',hrun,R',hst⟩:=Jqm (P:=P) R hi g1 hp hxr hb c1 c2 c3 (λn=>n<N);have hp':=hp;simp only[Rep]at hp';obtain⟨B2,hm,hpv⟩:=hp';have hBB:B≠B2:=by rintro rfl;exact hg (R.sep n B hm)
        obtain⟨us,t2,hw2,hr2⟩:=R.cells n B2 cs hm hb;obtain⟨cur1,hW1,_,_⟩:=Wr.setCells (B:=B) (t:=tt) vs o w cur hW hroom;have hw2':w.heap[B2]? = some (.cells us t2 (0,0)):=by rw[<- hW1.other B2 (λh=>hBB h.symm)];exact hw2
        have hcc:=hxr.cells c2;have hcl:=hcc.length;have hrl:=hr2.length;simp only[Bu]at hcl hrl;have runAt:∀(w2:World),w2.heap[B2]? = some (.cells us t2 (0,0))->(Instr.storeAt T (a.eval x) (a.eval y)).run P w2=.ok () (w2.setCells B2 off (a.eval y).cells.toList):=by intro w2 hh;have h:=run_storeCells_cells (P:=P) B2 off (a.eval y).cells.toList 0 w2 (λj hj=>by rw[AE,Y5 hh];simp at hj |-;omega) (λj hj=>Jda hh _) (λu hu=>hcc.oneCell u hu);simp only[AE]at h;simp only[hpv,Instr.storeAt,Instr.sureAddr,A6,Bg,AW,storeVar,VU hi];rw[if_neg O];simpa using h
        have hw'e:w'=(w.setCells B2 off (a.eval y).cells.toList).setCells B o vs:=by have h3:=runAt _ hw2;rw[hrun]at h3;simp only[CS,true_and]at h3;rw[h3,JdF hBB]
        subst hw'e;obtain⟨cur2,hWb,_,_⟩:=Wr.setCells (B:=B2) (t:=t2) (a.eval y).cells.toList off w us hw2' AR;refine⟨rfl,Go.undef,w.setCells B2 off (a.eval y).cells.toList,fin Go.undef _ .skip ?_ (.inr ⟨rfl,rfl⟩),R',?_,?_,hst,Jgt hb c4 (Rep.below R _ _ (JA E g3 hy))⟩
        ·simp[execOp,runAt w hw2']
        ·exact E.put (by simp[Rep,Go.undef]) it.dst hd
        ·rw[hWb.other B hBB];exact hW
       ·simp at hv
      ·simp at hv
     ·simp at hv
    ·simp at g1
   ·rename_i v S1 hv;exfalso;simp only[XN]at hv;split at hv
    ·split at hv
     ·split at hv
      ·simp at hv
      ·simp at hv
     ·simp at hv
    ·simp at hv
   ·simp at hs
 ·simp at hc
variable {P:Program}
theorem JeJ{l:Array Bool}{j:Nat}(hj:j<l.size)(i:Nat):(l.setIfInBounds j true).getD i true=false↔i≠j/\l.getD i true=false:=by
 by_cases h:j=i
 ·subst h;simp[Array.getD,hj]
 ·rw[getD_set_ne true h];constructor
  ·exact λhh=>⟨λe=>h e.symm,hh⟩
  ·exact λhh=>hh.2
theorem JmX{ops:Array Oper}{listed:Array Bool}{j:Nat}{o:Oper}(hd:JoX ops listed)(ho:ops[j]? = some o)(hp:∀ e∈o.after.toList,Region.binds .any e=true->listed.getD e.on false=true):JoX ops (listed.setIfInBounds j true):=by
 intro i oj ej hoj hlj hej hbj;by_cases hjx:j=i
 ·subst hjx;rw[ho]at hoj;cases hoj;exact getD_set_true (hp ej hej hbj)
 ·rw[getD_set_ne false hjx]at hlj;exact getD_set_true (hd i oj ej hoj hlj hej hbj)
theorem JfC{b0 base:Nat}{cl:Ky}:∀{R prev:List Item} {e e':KC} {S S':St} {r:Option AV},(∀ it∈R,Y7 it=true)->run b0 cl base prev R e S=some (r,e',S')->r=none
 | [],prev,e,e',S,S',r,_,h=>by simp only[run,V,AP]at h;exact h.1.symm
 | it::R,prev,e,e',S,S',r,hl,h=>by
  simp only[run]at h;split at h
  ·simp at h
  ·rename_i v e1 S1 hs;exfalso;have hit:=hl it Ag;simp only[Y7,Ah,beq_iff_eq]at hit;unfold YR at hs;split at hs
   ·simp at hs
   ·simp at hs
   ·split at hs
    ·split at hs <;> simp at hs
    ·rename_i l re hlop;rw[hlop]at hit;cases l <;> simp only[AT,and_false]at hit
     simp only[XN]at hs;split at hs
     ·simp at hs
     ·rename_i v1 S2 hv;split at hv
      ·split at hv
       ·split at hv <;> simp at hv
       ·simp at hv
      ·simp at hv
     ·simp at hs
  ·split at h
   ·exact JfC (λx hx=>hl x (A7 _ hx)) h
   ·simp at h
theorem Jsd{K:Ghost}{base:Nat}{S:St}{R:List Item}(hl:∀ it∈R,Y7 it=true):Pend K base S R:=by
 have hno:∀ it∈R,it.alloc? = none:=by
  intro it hi;have hit:=hl it hi;simp only[Y7,Ah]at hit;unfold Item.alloc?;split
  ·rename_i hop;rw[hop]at hit;simp at hit
  ·rfl
 refine⟨λit hi n hn=>?_,λit hi n hn=>?_,?_⟩
 ·obtain⟨j,hj,_⟩:=VA.1 hn;rw[hno it hi]at hj;cases hj
 ·obtain⟨j,hj,_⟩:=VA.1 hn;rw[hno it hi]at hj;cases hj
 ·have:R.filterMap Item.alloc? = []:=by rw[List.filterMap_eq_nil_iff];exact hno
  rw[this];exact DP
theorem Jtv{b0 base nt N:Nat}{cl:Ky}{ops:Array Oper}{Q:Exit->Act->World->Prop}{md:Region.Mode}{tab M:List Nat}(hcl:VF P cl)(hmd:∀ e,Region.binds .any e=true->Region.binds md e=true)
  (hok:Jgw ops tab=true) (hM:Jcw md ops M=true) {j9 j10 d9 B o:Nat} {vs:List Value} {tt:TypeId} {Ev:Act->Prop} {dsts:Nat->Prop}
  (hj:j9≠j10) (hj9:j9<ops.size) (hj10:j10<ops.size) (h910:(tab.getD j10 0).testBit j9=true) (hEv:∀ a' d u,Ev a'->dsts d->Ev (a'.put (some d) u)) (hd9:dsts d9) (hd9nt:d9<nt)
  (h9:∀ a' w',Ev a'->∀(Kont:Act->World->Prop) Q,Kont (a'.put (some d9) (.pointer (some ⟨B,o,none⟩))) w'->wpOp P ops Q j9 Kont a' w')
  (h10:∀ a' w' cur,Ev a'->a'.tmps.getD d9 Go.undef=.pointer (some ⟨B,o,none⟩)->w'.heap[B]? = some (.cells cur tt (0,0))->o+vs.length<=cur.size->∀(Kont:Act->World->Prop) Q,Kont a' (w'.setCells B o vs)->wpOp P ops Q j10 Kont a' w') :
  ∀(m:Nat) (R:List Item) (f9:Bool) (listed:Array Bool) (K:Ghost) (S:St) (w:World) (a:Act) (e e':KC) (r:Option AV) (S':St) (cur:Array Value),m=R.length+(if f9=true then 1 else 2)->listed.size=ops.size->JoX ops listed ->
  (∀ i,listed.getD i true=false↔i∈R.map (·.ix)\/(i=j9/\f9=false)\/i=j10)->(R.map (·.ix)).Nodup->j9 ∉ R.map (·.ix)->j10 ∉ R.map (·.ix) ->
  List.Pairwise (λk x=>Zj tab k x=true) R->List.Pairwise (λk x=>(tab.getD x.ix 0).testBit k.ix=true) R->(∀ k∈R,JeH k=true)->(∀ it∈R,VM P ops nt it=true)->(∀ it∈R,Y7 it=true)->(∀ it∈R,∀ d,it.dst=some d->dsts d/\d≠d9) ->
  Rel K S (w.setCells B o vs)->VL S.heap.length S->EnvRep K (Jj e) a.tmps->Jj e d9=none->nt<=a.tmps.size->b0<=S.heap.length->N<=S.heap.length->N<=base->K.g B≠none->w.heap[B]? = some (.cells cur tt (0,0))->o+vs.length<=cur.size->Ev a ->
  (f9=true->a.tmps.getD d9 Go.undef=.pointer (some ⟨B,o,none⟩))->run b0 cl base [] R e S=some (r,e',S') ->
  (∀ a' w' K',Rel K' S' w'->EnvRep K' (Jj e') a'.tmps->a'.tmps.size=a.tmps.size->a'.defers=a.defers->Step K (λn=>n<N) (w.setCells B o vs) K' w'->Keeps b0 S S'->Q .normal a' w') ->
  wpAny P md ops Q m listed a w:=by
 intro m;induction m with
 | zero=>intro R f9 listed K S w a e e' r S' cur hm;split at hm <;> omega
 | succ m ih=>
  intro R f9 listed K S w a e e' r S' cur hm hls hd hun hnd hn9 hn10 hpw hch hself hc hlate hdst Rl hsc E he9 hnt hb0 hN hNb hg hW hroom hev hp9 hrun hk;refine⟨λhr=>?_,λi hi=>?_⟩
  ·exfalso;simp only[Jcw,Ah,Bo]at hM;have hMj:=hM.2 j10 (Cc.2 hj10);obtain⟨j,hjj⟩:=Jbc hls M [] hM.1 Ag ⟨j10,by simpa using hMj,(hun j10).2 (.inr (.inr rfl))⟩;rw[hr]at hjj;cases hjj
  ·obtain⟨hil,oo,ho,hpre⟩:=mem_ready.1 hi;have hpre':∀ e∈oo.after.toList,Region.binds .any e=true->listed.getD e.on false=true:=λe he hb=>hpre e (by simpa using he) (hmd e hb);have hbef:=JeI hok hd i oo ho hpre';have hix:i<listed.size:=by rw[hls];exact(AQ.1 ho).1
   have hno:∀ k,(tab.getD i 0).testBit k=true->listed.getD k true=true:=λk hk=>by
    have h1:=hbef k hk;have hk2:k<listed.size:=by
     rcases Dy k listed.size with h |h
     ·exact h
     ·simp[Array.getD,DO.2 h]at h1
    have:listed.getD k true=listed.getD k false:=by simp[Array.getD,hk2]
    rw[this,h1]
   have hdn:=JmX hd ho hpre';rcases(hun i).1 hil with hiR |⟨rfl,hf9⟩ |rfl
   ·obtain⟨x,hx,rfl⟩:=Bw.1 hiR;obtain⟨A,Bk,rfl⟩:=CY hx;have hA:A=[]:=by
     cases A with
     | nil=>rfl
     | cons k A=>exfalso;have hb:=(Cb.1 hch).2.2 k Ag x Ag;have h1:=hno k.ix hb;have h2:=(hun k.ix).2 (.inl Ag);rw[h1]at h2;cases h2
    subst hA;simp only[Au]at *;simp only[run]at hrun;have hs:∃ o1 e1 S1,YR b0 cl base x e S=some (o1,e1,S1):=by
     split at hrun
     ·simp at hrun
     ·rename_i h;exact⟨_,_,_,h⟩
     ·rename_i h;exact⟨_,_,_,h⟩
    obtain⟨o1,e1,S1,hs⟩:=hs;obtain⟨rfl,u,w1,hwp,R1,E1,hW1,hst1,hkp1⟩:=Jsc (N:=N) (hlate x Ag) (hc x Ag) Rl hW hroom hg E hnt hs;rw[hs]at hrun;simp only at hrun;split at hrun
    ·obtain⟨e2,hrun2,he2⟩:=Jhl Bk [x] [] (λk hk=>by simp at hk) rfl hrun;refine hwp _ _ ?_;have he9':Jj e1 d9=none:=by
      rcases Zs (e1:=e) (λt _=>rfl) hs with⟨_,h,_⟩ |⟨v',_,h1,_⟩
      ·cases h
      ·rw[h1,Jat (λh=>(hdst x Ag d9 h).2 rfl)];exact he9
     have hsz:(a.put x.dst u).tmps.size=a.tmps.size:=by cases x.dst <;> simp[Act.put]
     have hdf:(a.put x.dst u).defers=a.defers:=by cases x.dst <;> simp[Act.put]
     have hnd':=hnd;rw[Ap,B6]at hnd';refine ih Bk f9 (listed.setIfInBounds x.ix true) K S1 w1 (a.put x.dst u) e1 e2 r S' cur ?_ (by simpa using hls) hdn ?_ hnd'.2 ?_ ?_ (BK.1 hpw).2 (BK.1 hch).2 (λk hk=>hself k (by simp[hk])) (λk hk=>hc k (by simp[hk])) (λk hk=>hlate k (by simp[hk])) (λk hk=>hdst k (by simp[hk]))
      R1 (hkp1.2.2 hsc) E1 he9' O (by have:=hkp1.1;omega) (by have:=hkp1.1;omega) hNb hg hW1 hroom ?_ ?_ hrun2 ?_
     ·simp only[Ad]at hm;omega
     ·intro j;rw[JeJ hix,hun j];simp only[Ap,AS];constructor
      ·rintro⟨h1,(h |h) |h |h⟩
       ·exact absurd h h1
       ·exact .inl h
       ·exact .inr (.inl h)
       ·exact .inr (.inr h)
      ·rintro(h |h |h)
       ·exact⟨λhj=>hnd'.1 (hj ▸ h),.inl (.inr h)⟩
       ·exact⟨λhj=>hn9 (by simp[<- h.1,hj]),.inr (.inl h)⟩
       ·exact⟨λhj=>hn10 (by simp[<- h,hj]),.inr (.inr h)⟩
     ·intro h;exact hn9 (by simp at h |-;exact .inr h)
     ·intro h;exact hn10 (by simp at h |-;exact .inr h)
     ·cases hxd:x.dst with
      | none=>exact hev
      | some d=>exact hEv a d u hev (hdst x Ag d hxd).1
     ·intro hf;rw[<- hp9 hf];cases hxd:x.dst with
      | none=>rfl
      | some d=>have hne:=(hdst x Ag d hxd).2;simp only[Act.put];rw[AX,BS hne,<- AX]
     ·intro a' w' K' R' E' hsz' hdf' hst' hkp';exact hk a' w' K' R' (by rw[he2];exact E') O (hdf'.trans hdf) (hst1.trans hst' (λ_ h=>h)) (hkp1.trans hkp')
    ·simp at hrun
   ·
    refine h9 a w hev _ _ ?_;have hsz:(a.put (some d9) (.pointer (some ⟨B,o,none⟩))).tmps.size=a.tmps.size:=by simp[Act.put]
    refine ih R true (listed.setIfInBounds i true) K S w _ e e' r S' cur ?_ (by simpa using hls) hdn ?_ hnd hn9 hn10 hpw hch hself hc hlate hdst Rl hsc (E.other he9) he9 O hb0 hN hNb hg hW hroom (hEv a d9 _ hev hd9) ?_ hrun ?_
    ·subst hf9;simp only[AT,if_false]at hm;simp only[if_true];omega
    ·intro j;rw[JeJ hix,hun j];constructor
     ·rintro⟨h1,h |h |h⟩
      ·exact .inl h
      ·exact absurd h.1 h1
      ·exact .inr (.inr h)
     ·rintro(h |h |h)
      ·exact⟨λhj=>hn9 (hj ▸ h),.inl h⟩
      ·simp at h
      ·exact⟨λh'=>hj (by rw[<- h',h]),.inr (.inr h)⟩
    ·intro _;simp only[Act.put];rw[AX,Dj O];rfl
    ·intro a' w' K' R' E' hsz' hdf' hst' hkp';exact hk a' w' K' R' E' O hdf' hst' hkp'
   ·
    have hf9:f9=true:=by
     cases f9 with
     | true=>rfl
     | false=>exfalso;have h1:=hno j9 h910;have h2:=(hun j9).2 (.inr (.inl ⟨rfl,rfl⟩));rw[h1]at h2;cases h2
    subst hf9;refine h10 a w cur hev (hp9 rfl) hW hroom _ _ ?_;have hrn:=JfC hlate hrun;refine JmW (N:=N) hcl hmd hok hM m R (listed.setIfInBounds i true) K S _ a e e' r S' (by simp only[if_true]at hm;omega) (by simpa using hls) hdn ?_ hnd hpw hself hc Rl hsc E hnt hb0 hN (Jsd hlate) hNb hrun ?_ ?_
    ·intro j;rw[JeJ hix,hun j];constructor
     ·rintro⟨h1,h |h |h⟩
      ·exact h
      ·simp at h
      ·exact absurd h h1
     ·intro h;exact⟨λhj=>hn10 (hj ▸ h),.inl h⟩
    ·intro a' w' K' _ R' E' hsz' hdf' hst' hkp';exact hk a' w' K' R' E' hsz' hdf' hst' hkp'
    ·intro v u a' w' K' hr;rw[hrn]at hr;cases hr
variable {P:Program}
def JmY(P:Program)(ops:Array Oper)(nt:Nat)(x:Item)(d8:Nat)(sz by_:Nat)(a y i z:Opd)(d j9 j10:Nat):Bool:=
 x.dst == some d8 && x.guard == none && decide (d8<nt) && decide (d<nt) && d != d8 && !i.reads.contains d8 && !z.reads.contains d8 && !i.reads.contains d && !z.reads.contains d && decide (0<sz) &&
 (match ops[x.ix]? with
 | some o=>o.dst == some d8 && Jct ops o.guard none && (match o.op with
  | .call c=>(match c.callee with
   | .builtin .append=>(match c.args.toList,c.argTypes.toList with
    | [x',y'],[t,tx]=>JwP P t tx sz by_ && Vp a x' && Vp y y'
    | _,_=>false)
   | _=>false)
  | _=>false)
 | none=>false) &&
 (match ops[j9]? with
 | some o=>o.dst == some d && Jct ops o.guard none && (match o.op with
  | .indexAddr T (.tmp t) i'=>t == d8 && sliceB P T sz && Vp i i'
  | _=>false)
 | none=>false) &&
 (match ops[j10]? with
 | some o=>o.dst == none && Jct ops o.guard none && (match o.op with
  | .store T (.tmp t) z'=>t == d && (match P.info? T with |some ti=>ti.size == sz |none=>false) && Vp z z'
  | _=>false)
 | none=>false)
theorem Jlp{v:AV}(h:J7 v=true):Kl v.cells=true:=by cases v <;> first |exact h |(simp only[AV.cells,Kl,CI];exact h)
theorem JeK{a:Act}{d:Nat}{u:Value}{x:Opd}{y:Operand}(h:Vp x y=true)(hd:d ∉ x.reads):(a.put (some d) u).eval y=a.eval y:=by
 cases y with
 | tmp t=>
  cases x with
  | tmp t'=>simp only[Vp,beq_iff_eq]at h;subst h;have hne:d≠t':=λhh=>hd (by simp[Opd.reads,hh]);simp only[Act.put,Act.eval];rw[AX,BS hne,<- AX]
  | const v=>simp[Vp]at h
 | _=>rfl
theorem Jlq{ops:Array Oper}{Q:Exit->Act->World->Prop}{j:Nat}{o:Oper}{Kont:Act->World->Prop}{a:Act}{w:World}(ho:ops[j]? = some o)(hg:Jct ops o.guard none=true)(h:o.wp P a w Kont Q):wpOp P ops Q j Kont a w:=by
 unfold wpOp;simp only[ho];have:Region.wanted o (yielded ops a.tmps)=true:=by
  unfold Jct at hg;split at hg
  ·rename_i h1 _;simp[Region.wanted,h1]
  ·rename_i h2;simp at h2
  ·simp at hg
 rw[this];simp only[if_true];exact .inl h
theorem Jtw{b0 base nt:Nat}{cl:Ky}{ops:Array Oper}{x:Item}{d8 sz by_:Nat}{ax yx ix zx:Opd}{d j9 j10:Nat}{re:List Nat}(hc:JmY P ops nt x d8 sz by_ ax yx ix zx d j9 j10=true)(hop:x.op=.l (.append1 sz by_ ax yx ix zx d j9 j10) re)
  {K:Ghost} {S S':St} {w:World} {a:Act} {e e':KC} {r:Option AV} (R:Rel K S w) (E:EnvRep K (Jj e) a.tmps) (hnt:nt<=a.tmps.size) (hs:YR b0 cl base x e S=some (r,e',S')) :
  r=none/\Jj e' d=none/\∃(B o:Nat) (u:Value) (vs:List Value) (K':Ghost) (w':World) (cur:Array Value) (tt:TypeId) (Ev:Act->Prop),
   (∀(Kont:Act->World->Prop) Q,Kont (a.put (some d8) u) w'->wpOp P ops Q x.ix Kont a w)/\Ev (a.put (some d8) u) /\
   (∀ a' t v,Ev a'->t≠d8/\t ∉ ix.reads/\t ∉ zx.reads->Ev (a'.put (some t) v)) /\
   (∀ a' w',Ev a'->∀(Kont:Act->World->Prop) Q,Kont (a'.put (some d) (.pointer (some ⟨B,o,none⟩))) w'->wpOp P ops Q j9 Kont a' w') /\
   (∀ a' w' cur,Ev a'->a'.tmps.getD d Go.undef=.pointer (some ⟨B,o,none⟩)->w'.heap[B]? = some (.cells cur tt (0,0))->o+vs.length<=cur.size->∀(Kont:Act->World->Prop) Q,Kont a' (w'.setCells B o vs)->wpOp P ops Q j10 Kont a' w') /\
   w'.heap[B]? = some (.cells cur tt (0,0))/\o+vs.length<=cur.size/\K'.g B≠none/\Rel K' S' (w'.setCells B o vs)/\EnvRep K' (Jj e') (a.put (some d8) u).tmps/\S'.heap=S.heap/\∀ X,Step K X w K' (w'.setCells B o vs):=by
 unfold JmY at hc;simp only[Ah,beq_iff_eq,decide_eq_true_eq,bne_iff_ne,ne_eq,Bb,BD,decide_eq_false_iff_not]at hc;obtain⟨⟨⟨⟨⟨⟨⟨⟨⟨⟨⟨⟨hd8,hgd⟩,hd8nt⟩,hdnt⟩,hdd8⟩,hi8⟩,hz8⟩,hid⟩,hzd⟩,hszp⟩,hx8⟩,hx9⟩,hx10⟩:=hc;unfold YR at hs;rw[hgd,hop]at hs;simp only[wanted,XN]at hs;split at hs
 ·rename_i v1 S1 hlv;split at hlv
  ·rename_i s0 tag rows szb tagb rowsb n v ha hy hi hz;split at hlv
   ·rename_i hcond;obtain⟨hn,rfl,hyl,hvl,hcl,hok,hed⟩:=hcond;split at hlv
    ·rename_i v2 S2 happ;simp only[V,AP,Res.ret.injEq]at hlv hs;obtain⟨rfl,rfl⟩:=hlv;obtain⟨rfl,rfl,rfl⟩:=hs;split at hx8
     ·rename_i o8 ho8;simp only[Ah,beq_iff_eq]at hx8;obtain⟨⟨hdst8,hg8⟩,hx8⟩:=hx8;obtain⟨odst,op,type,pos,after,guard⟩:=o8;simp only at hdst8 hg8 hx8;split at hx8
      ·rename_i c;split at hx8
       ·rename_i hcal;split at hx8
        ·rename_i x' y' t tx hargs hts;simp only[Ah]at hx8;obtain⟨⟨h1,h2⟩,h3⟩:=hx8;unfold JwP at h1;split at h1
         ·rename_i el e' hu hux;split at h1
          ·rename_i i hii;simp only[Ah,beq_iff_eq]at h1;obtain⟨⟨hsz,hby⟩,h1⟩:=h1;split at h1
           ·rename_i zv hzv;simp only[beq_iff_eq]at h1;split at hx10
            ·rename_i o10 ho10;simp only[Ah,beq_iff_eq]at hx10;obtain⟨⟨hdst10,hg10⟩,hx10⟩:=hx10;obtain⟨odst10,op10,type10,pos10,after10,guard10⟩:=o10;simp only at hdst10 hg10 hx10;split at hx10
             ·rename_i T10 t10 z';simp only[Ah,beq_iff_eq]at hx10;obtain⟨⟨rfl,hT10⟩,hz'⟩:=hx10;split at hT10
              ·rename_i ti hti;simp only[beq_iff_eq]at hT10;split at hx9
               ·rename_i o9 ho9;simp only[Ah,beq_iff_eq]at hx9;obtain⟨⟨hdst9,hg9⟩,hx9⟩:=hx9;obtain⟨odst9,op9,type9,pos9,after9,guard9⟩:=o9;simp only at hdst9 hg9 hx9;split at hx9
                ·rename_i T9 t9 i';simp only[Ah,beq_iff_eq]at hx9;obtain⟨⟨rfl,hT9⟩,hi'⟩:=hx9;have hzr:=JA E hz' hz;have hir:=JA E hi' hi;simp only[Rep]at hir;obtain⟨B,o,cap',K',w',cur,tt,hrun,hW,hroom,hg,hrep,R',hh,hst⟩:=Jsb (P:=P) (ty:=type) R hu hii hzv hsz h1 hby hux (JA E h2 ha) (JA E h3 hy) hyl
                  (hzr.cells hok).canon ⟨by simp[Jh,hvl],by rw[ZK];exact Jlp hcl⟩ happ
                 have hargs':c.args=#[x',y']:=by apply Cr;simpa using hargs
                 have hts':c.argTypes=#[t,tx]:=by apply Cr;simpa using hts
                 have hvs:((a.eval z').cells.toList).length=szb:=by have:=(hzr.cells hok).length;rw[this,hvl]
                 refine⟨rfl,?_,B,o+rows.length*szb,.slice (some ⟨B,o,none⟩) (rows.length+1) cap',(a.eval z').cells.toList,K',w',cur,tt,
                  (λa'=>a'.eval (.tmp t9)=.slice (some ⟨B,o,none⟩) (rows.length+1) cap'/\a'.eval i'=.int .i64 n/\a'.eval z'=a.eval z'),?_,?_,?_,?_,?_,hW,O,hg,R',?_,hh,hst⟩
                 ·rw[Jat (by rw[hd8];intro h;exact hdd8 (Option.some.inj h).symm)];exact hed
                 ·intro Kont Q hK;refine Jlq ho8 hg8 ?_;unfold Oper.wp;have hrun':(execOp a.eval {dst:=odst,op:=.call c,type:=type,pos:=pos,after:=after,guard:=guard}).run P w=.ok (.value (.slice (some ⟨B,o,none⟩) (rows.length+1) cap')) w':=by simp[execOp,resolve,hcal,hargs',hts',invoke,builtin,hrun]
                  rw[hrun',Oper.upon_value];simp only;rw[hdst8];exact hK
                 ·refine⟨?_,?_,?_⟩
                  ·simp only[Act.put,Act.eval];rw[AX,Dj O];rfl
                  ·rw[JeK hi' hi8];exact hir
                  ·rw[JeK hz' hz8]
                 ·rintro a' t v' ⟨e1,e2,e3⟩ ⟨n1,n2,n3⟩;refine⟨?_,by rw[JeK hi' n2];exact e2,by rw[JeK hz' n3];exact e3⟩;rw[<- e1];simp only[Act.put,Act.eval];rw[AX,BS n1,<- AX]
                 ·rintro a' w1 ⟨e1,e2,e3⟩ Kont Q hK;refine Jlq ho9 hg9 ?_;unfold Oper.wp;obtain⟨el9,ti9,hu9,hi9,hsz9⟩:=Jcq hT9;have hrun9:(execOp a'.eval {dst:=odst9,op:=.indexAddr T9 (.tmp t9) i',type:=type9,pos:=pos9,after:=after9,guard:=guard9}).run P w1=.ok (.value (.pointer (some ⟨B,o+rows.length*szb,none⟩))) w1:=by have hn0:n.toNat=rows.length:=O;simp only[execOp,e1,e2,Instr.indexAt,asIntOf,A6,Bg,AW,run_underlying hu9];simp only[Dl,AT,if_false,CJ,A6,VU hi9,AW,Bg,hsz9,Ya];rw[if_pos O,hn0];rfl
                  rw[hrun9,Oper.upon_value];simp only;rw[hdst9];exact hK
                 ·rintro a' w1 cur1 ⟨e1,e2,e3⟩ hp hW1 hr1 Kont Q hK;refine Jlq ho10 hg10 ?_;unfold Oper.wp;have hptr:a'.eval (.tmp t10)=.pointer (some ⟨B,o+rows.length*szb,none⟩):=hp;have hrun10:(execOp a'.eval {dst:=odst10,op:=.store T10 (.tmp t10) z',type:=type10,pos:=pos10,after:=after10,guard:=guard10}).run P w1=.ok .skip (w1.setCells B (o+rows.length*szb) (a.eval z').cells.toList):=by
                   have h:=run_storeCells_cells (P:=P) B (o+rows.length*szb) (a.eval z').cells.toList 0 w1 (λj hj=>by rw[AE,Y5 hW1];simp only[Bu]at hj hr1;simp;omega) (λj hj=>Jda hW1 _) (λu hu=>(hzr.cells hok).oneCell u hu);simp only[AE]at h;have hszz:(a.eval z').cells.size=szb:=by simpa using hvs
                   simp only[execOp,hptr,e3,Instr.storeAt,Instr.sureAddr,A6,Bg,AW,storeVar,VU hti];rw[if_neg O];simp[h]
                  rw[hrun10,Oper.upon_skip];simp only;rw[hdst10];exact hK
                 ·have:=(E.ext (hst (λ_=>False)).ext).put hrep x.dst (λt ht=>by rw[hd8]at ht;cases ht;omega);rw[hd8]at this |-;exact this
                ·simp at hx9
               ·simp at hx9
              ·simp at hT10
             ·simp at hx10
            ·simp at hx10
           ·simp at h1
          ·simp at h1
         ·simp at h1
        ·simp at hx8
       ·simp at hx8
      ·simp at hx8
     ·simp at hx8
    ·simp at hlv
   ·simp at hlv
  ·simp at hlv
 ·rename_i v1 S1 hlv;exfalso;split at hlv
  ·split at hlv
   ·split at hlv <;> simp at hlv
   ·simp at hlv
  ·simp at hlv
 ·simp at hs
variable {P:Program}
theorem Jse{b0 base nt:Nat}{cl:Ky}{ops:Array Oper}{Q:Exit->Act->World->Prop}{N:Nat}{md:Region.Mode}{tab M:List Nat}(hcl:VF P cl)(hmd:∀ e,Region.binds .any e=true->Region.binds md e=true)
  (hok:Jgw ops tab=true) (hM:Jcw md ops M=true) {x8:Item} {R0:List Item} {d8 sz by_:Nat} {ax yx ix zx:Opd} {d j9 j10:Nat} {re:List Nat}
  (hc8:JmY P ops nt x8 d8 sz by_ ax yx ix zx d j9 j10=true) (hop8:x8.op=.l (.append1 sz by_ ax yx ix zx d j9 j10) re)
  (hj:j9≠j10) (hj9:j9<ops.size) (hj10:j10<ops.size) (h910:(tab.getD j10 0).testBit j9=true) (h89:(tab.getD j9 0).testBit x8.ix=true) (h810:(tab.getD j10 0).testBit x8.ix=true)
  (hcR:∀ it∈R0,VM P ops nt it=true) (hlate:∀ it∈R0,Y7 it=true) (hch:List.Pairwise (λk x=>(tab.getD x.ix 0).testBit k.ix=true) R0) (h8R:∀ it∈R0,(tab.getD it.ix 0).testBit x8.ix=true)
  (hdst:∀ it∈R0,∀ t,it.dst=some t->(t≠d8/\t ∉ ix.reads/\t ∉ zx.reads)/\t≠d) (hd:d≠d8/\d ∉ ix.reads/\d ∉ zx.reads) (hdnt:d<nt) :
  ∀(m:Nat) (L0:List Item) (listed:Array Bool) (K:Ghost) (S:St) (w:World) (a:Act) (e e':KC) (r:Option AV) (S':St),L0.length+(R0.length+3)=m->(∀ k∈L0,(tab.getD x8.ix 0).testBit k.ix=true) ->
  listed.size=ops.size->JoX ops listed->(∀ i,listed.getD i true=false↔i∈(L0++x8::R0).map (·.ix)\/i=j9\/i=j10)->((L0++x8::R0).map (·.ix)).Nodup->j9 ∉ (L0++x8::R0).map (·.ix)->j10 ∉ (L0++x8::R0).map (·.ix) ->
  List.Pairwise (λk x=>Zj tab k x=true) (L0++x8::R0)->(∀ k∈L0++x8::R0,JeH k=true) ->
  (∀ it∈L0,VM P ops nt it=true)->Rel K S w->VL S.heap.length S->EnvRep K (Jj e) a.tmps->nt<=a.tmps.size->b0<=S.heap.length->N<=S.heap.length->Pend K base S (L0++x8::R0)->N<=base ->
  run b0 cl base [] (L0++x8::R0) e S=some (r,e',S') ->
  (∀ a' w' K',r=none->Rel K' S' w'->EnvRep K' (Jj e') a'.tmps->a'.tmps.size=a.tmps.size->a'.defers=a.defers->Step K (λn=>n<N) w K' w'->Keeps b0 S S'->Q .normal a' w') ->
  (∀ v u a' w' K',r=some v->Rep K' v u->Rel K' S' w'->a'.defers=a.defers->Step K (λn=>n<N) w K' w'->Keeps b0 S S'->Q (.panic [{v:=u,recovered:=false}]) a' w') ->
  wpAny P md ops Q m listed a w:=by
 intro m;induction m with
 | zero=>intro L0 listed K S w a e e' r S' hL;omega
 | succ m ih=>
  intro L0 listed K S w a e e' r S' hL hb8 hls hd' hun hnd hn9 hn10 hpw hself hc R hsc E hnt hb0 hN hpd hNb hrun hk hp;refine⟨λhr=>?_,λi hi=>?_⟩
  ·exfalso;simp only[Jcw,Ah,Bo]at hM;have hMj:=hM.2 j10 (Cc.2 hj10);obtain⟨j,hjj⟩:=Jbc hls M [] hM.1 Ag ⟨j10,by simpa using hMj,(hun j10).2 (.inr (.inr rfl))⟩;rw[hr]at hjj;cases hjj
  ·obtain⟨hil,o,ho,hpre⟩:=mem_ready.1 hi;have hpre':∀ e∈o.after.toList,Region.binds .any e=true->listed.getD e.on false=true:=λe he hb=>hpre e (by simpa using he) (hmd e hb);have hbef:=JeI hok hd' i o ho hpre';have hix:i<listed.size:=by rw[hls];exact(AQ.1 ho).1
   have hno:∀ k,(tab.getD i 0).testBit k=true->listed.getD k true=true:=λk hk=>by
    have h1:=hbef k hk;have hk2:k<listed.size:=by
     rcases Dy k listed.size with h |h
     ·exact h
     ·simp[Array.getD,DO.2 h]at h1
    have:listed.getD k true=listed.getD k false:=by simp[Array.getD,hk2]
    rw[this,h1]
   have hno8:(tab.getD i 0).testBit x8.ix=true->False:=λh=>by have h1:=hno _ h;have h2:=(hun x8.ix).2 (.inl Ag);rw[h1]at h2;cases h2
   have hdn:=JmX hd' ho hpre';rcases(hun i).1 hil with hiL |rfl |rfl
   ·obtain⟨x,hx,hxi⟩:=Bw.1 hiL;subst hxi;rcases AM.1 hx with hx0 |hx1
    ·
     obtain⟨A,B,rfl⟩:=CY hx0;have hassoc:(A++x::B)++x8::R0=A++x::(B++x8::R0):=Ag;rw[hassoc]at hpw hrun hnd hself hpd hun hn9 hn10;have hpwA:=(Cb.1 hpw)
     have hAx:∀ k∈A,Zj tab k x=true:=λk hk=>hpwA.2.2 k hk x Ag;have hkl:∀ k∈A,(tab.getD x.ix 0).testBit k.ix=false:=λk hk=>by
      cases hb:(tab.getD x.ix 0).testBit k.ix with
      | false=>rfl
      | true=>have h1:=hno k.ix hb;have h2:=(hun k.ix).2 (.inl (Bw.2 ⟨k,by simp[hk],rfl⟩));rw[h1]at h2;cases h2
     have hpull:=pull (A:=A) (B:=B++x8::R0) (x:=x) (e:=e) (S:=S) (r:=r) (e':=e') (S':=S') (b0:=b0) (cl:=cl) (base:=base) (λk hk=>by have:=hAx k hk;simp only[Zj,hkl k hk,B3,Ah,Bp,BD,decide_eq_true_eq]at this;exact⟨this.1.1.1,this.1.1.2,by rcases this.1.2 with(h |h) |h <;> simp[h]⟩)
      (hpwA.1.imp (fun{k y} h=>by simp only[Zj,Ah]at h;exact h.2))
      (λk hk=>by have:=hAx k hk;simp only[Zj,Ah]at this;exact this.2) (λk hk=>hself k (by simp[hk])) hrun
     have hmk:∀ n,n<N->n<S.heap.length/\¬ x.makes base n:=λn hn=>⟨O,λhm=>by obtain⟨j,_,rfl⟩:=VA.1 hm;omega⟩
     rcases hpull with⟨v,hv,hst⟩ |⟨e1,S1,hst,e2,hrun2,he2⟩
     ·refine Jkc (hc x Ag) hcl R hsc E hnt hb0 (hpd.none x Ag) hst ?_ ?_
      ·intro a' w' K' h;cases h
      ·intro v' u w' K' hv' hr R' hstp hkp;cases hv';exact hp v u a w' K' hv hr R' rfl (hstp.mono hmk) hkp
     ·refine Jkc (hc x Ag) hcl R hsc E hnt hb0 (hpd.none x Ag) hst ?_ ?_
      ·intro a1 w1 K1 _ R1 E1 hsz hdf hstp hkp;have hassoc2:(A++B)++x8::R0=A++(B++x8::R0):=Ag;have hnd':((A++(B++x8::R0)).map (·.ix)).Nodup/\x.ix ∉ (A++(B++x8::R0)).map (·.ix):=by rw[An,Ap]at hnd;have h1:=(List.perm_middle.nodup_iff).1 hnd;rw[B6]at h1;rw[An];exact⟨h1.2,h1.1⟩
       refine ih (A++B) (listed.setIfInBounds x.ix true) K1 S1 w1 a1 e1 e2 r S' ?_ ?_ (by simpa using hls) hdn ?_ (by rw[hassoc2];exact hnd'.1) ?_ ?_ ?_ ?_ ?_ R1 (hkp.2.2 hsc) E1 O ?_ ?_ ?_ hNb (by rw[hassoc2];exact hrun2) ?_ ?_
       ·simp at hL |-;omega
       ·intro k hk';refine hb8 k ?_;rcases AM.1 hk' with h |h
        ·simp[h]
        ·simp[h]
       ·intro j;rw[JeJ hix,hun j,hassoc2];simp only[An,Ap,AM,AS];have hxn:=hnd'.2;simp only[An,Ap,AM,AS]at hxn;constructor
        ·rintro⟨h1,h |h⟩
         ·rcases h with h |h |h
          ·exact .inl (.inl h)
          ·exact absurd h h1
          ·exact .inl (.inr h)
         ·exact .inr h
        ·rintro(h |h)
         ·refine⟨λhj=>hxn (hj ▸ h),.inl ?_⟩;rcases h with h |h
          ·exact .inl h
          ·exact .inr (.inr h)
         ·refine⟨?_,.inr h⟩;rintro rfl;rcases h with h |h
          ·exact hn9 (by simp[<- h])
          ·exact hn10 (by simp[<- h])
       ·rw[hassoc2];intro h;refine hn9 ?_;simp only[An,Ap,AM,AS]at h |-;rcases h with h |h |h |h <;> simp only[h,true_or,or_true]
       ·rw[hassoc2];intro h;refine hn10 ?_;simp only[An,Ap,AM,AS]at h |-;rcases h with h |h |h |h <;> simp only[h,true_or,or_true]
       ·rw[hassoc2];exact Cb.2 ⟨hpwA.1,(BK.1 hpwA.2.1).2,λk hk y hy=>hpwA.2.2 k hk y (A7 _ hy)⟩
       ·rw[hassoc2];exact λk hk=>hself k (by
         rcases AM.1 hk with h |h
         ·simp[h]
         ·exact List.mem_append_right _ (A7 _ h))
       ·exact λk hk=>hc k (by
         rcases AM.1 hk with h |h
         ·simp[h]
         ·simp[h])
       ·have:=hkp.1;omega
       ·have:=hkp.1;omega
       ·rw[hassoc2];exact hpd.pull hstp hkp.1
       ·intro a' w' K' hr R' E' hsz' hdf' hst' hkp';exact hk a' w' K' hr R' (by rw[he2];exact E') O (hdf'.trans hdf) ((hstp.mono hmk).trans hst' (λ_ h=>h)) (hkp.trans hkp')
       ·intro v u a' w' K' hr hrep R' hdf' hst' hkp';exact hp v u a' w' K' hr hrep R' (hdf'.trans hdf) ((hstp.mono hmk).trans hst' (λ_ h=>h)) (hkp.trans hkp')
      ·intro v u w' K' h;cases h
    ·rcases AS.1 hx1 with rfl |hxR
     ·
      have hL0:L0=[]:=by
       cases L0 with
       | nil=>rfl
       | cons k L0=>exfalso;have h1:=hno k.ix (hb8 k Ag);have h2:=(hun k.ix).2 (.inl Ag);rw[h1]at h2;cases h2
      subst hL0;simp only[Au]at hun hnd hn9 hn10 hpw hself hpd hrun;simp only[run]at hrun;have hs:∃ o1 e1 S1,YR b0 cl base x e S=some (o1,e1,S1):=by
       split at hrun
       ·simp at hrun
       ·rename_i h;exact⟨_,_,_,h⟩
       ·rename_i h;exact⟨_,_,_,h⟩
      obtain⟨o1,e1,S1,hs⟩:=hs;obtain⟨rfl,hed,B,ob,u,vs,K1,w1,cur,tt,Ev,hwp,hev,hEv,g9,g10,hW,hroom,hg,R1,E1,hh,hst1⟩:=Jtw hc8 hop8 R E hnt hs;rw[hs]at hrun;simp only at hrun;split at hrun
      ·obtain⟨e2,hrun2,he2⟩:=Jhl R0 [x] [] (λk hk=>by simp at hk) rfl hrun;refine hwp _ _ ?_;have hsz:(a.put (some d8) u).tmps.size=a.tmps.size:=by simp[Act.put]
       rw[Ap,B6]at hnd;have hkr:Keeps b0 S S1:=Jig hh;refine Jtv (N:=N) hcl hmd hok hM (dsts:=λt=>t≠d8/\t ∉ ix.reads/\t ∉ zx.reads) hj hj9 hj10 h910 (λa' t v h h2=>hEv a' t v h h2) hd hdnt g9 g10 m R0 false (listed.setIfInBounds x.ix true) K1 S1 w1 _ e1 e2 r S' cur (by simp at hL |-;omega) (by simpa using hls) hdn ?_ hnd.2 ?_ ?_
        (BK.1 hpw).2 hch (λk hk=>hself k (by simp[hk])) hcR hlate hdst R1 (hkr.2.2 hsc) E1 hed O (by rw[hh];exact hb0) (by rw[hh];exact hN) hNb hg hW hroom hev (λh=>by cases h) hrun2 ?_
       ·intro j;rw[JeJ hix,hun j];simp only[Ap,AS,and_true];constructor
        ·rintro⟨h1,(h |h) |h |h⟩
         ·exact absurd h h1
         ·exact .inl h
         ·exact .inr (.inl h)
         ·exact .inr (.inr h)
        ·rintro(h |h |h)
         ·exact⟨λhj=>hnd.1 (hj ▸ h),.inl (.inr h)⟩
         ·exact⟨λhj=>hn9 (by simp[<- h,hj]),.inr (.inl h)⟩
         ·exact⟨λhj=>hn10 (by simp[<- h,hj]),.inr (.inr h)⟩
       ·intro h;exact hn9 (by simp at h |-;exact .inr h)
       ·intro h;exact hn10 (by simp at h |-;exact .inr h)
       ·intro a' w' K' R' E' hsz' hdf' hst' hkp';have hrn:=JfC hlate hrun2;exact hk a' w' K' hrn R' (by rw[he2];exact E') O (hdf'.trans (by simp[Act.put])) ((hst1 _).trans hst' (λ_ h=>h)) (hkr.trans hkp')
      ·simp at hrun
     ·exact(hno8 (h8R x hxR)).elim
   ·exact(hno8 h89).elim
   ·exact(hno8 h810).elim
variable {P:Program}
def Jbd(P:Program)(nt:Nat)(allocs:List (List AV))(items:List Item)(ops:Array Oper)(draw:Bool):Bool:=
 items.all (VM P ops nt) && JdV (items.filterMap Item.alloc?) && (items.filterMap Item.alloc?).all (λj=>decide (j<allocs.length)) && allocs.all (belowL 0) &&
 if draw then
  let tab:=JoW ops
  Jgw ops tab && Jio tab items && JdV (items.map (·.ix)) && items.length == ops.size && (List.range ops.size).all (items.map (·.ix)).contains &&
   Jcw .any ops (List.range ops.size) && (!Region.departs ops ||(Jcw .text ops (List.range ops.size) && Jcw .gc ops (Region.linearise .gc ops 0)))
 else items.map (·.ix) == List.range ops.size
def JfD:List Item->Option (List Item×Item×List Item)
 | []=>none
 | it::l=>match it.op with
  | .l (.append1 ..) _=>some ([],it,l)
  | _=>(JfD l).map λp=>(it::p.1,p.2.1,p.2.2)
theorem Jgx:∀{l L0:List Item} {x:Item} {R:List Item},JfD l=some (L0,x,R)->l=L0++x::R
 | [],L0,x,R,h=>by simp[JfD]at h
 | it::l,L0,x,R,h=>by
  simp only[JfD]at h;split at h
  ·simp only[V,AP]at h;obtain⟨rfl,rfl,rfl⟩:=h;rfl
  ·simp only[BN,AP]at h;obtain⟨p,hp,rfl,rfl,rfl⟩:=h;rw[Jgx (L0:=p.1) (x:=p.2.1) (R:=p.2.2) hp];rfl
def Jlr(tab:List Nat):List Item->Bool
 | []=>true
 | k::L=>L.all (λx=>(tab.getD x.ix 0).testBit k.ix) && Jlr tab L
theorem Jgy{tab:List Nat}:∀{L:List Item},Jlr tab L=true->List.Pairwise (λk x=>(tab.getD x.ix 0).testBit k.ix=true) L
 | [],_=>List.Pairwise.nil
 | k::L,h=>by simp only[Jlr,Ah,Bo]at h;exact BK.2 ⟨h.1,Jgy h.2⟩
def JSS(d8 d:Nat)(i z:Opd)(it:Item):Bool:=
 match it.dst with
 | some t=>t != d8 && !i.reads.contains t && !z.reads.contains t && t != d
 | none=>true
def JbD(P:Program)(nt:Nat)(allocs:List (List AV))(items:List Item)(ops:Array Oper)(draw:Bool):Bool:=
 draw && match JfD items with
 | some (L0,x,R)=>match x.op,x.dst with
  | .l (.append1 sz by_ a y i z d j9 j10) _,some d8=>
   let tab:=JoW ops
   JmY P ops nt x d8 sz by_ a y i z d j9 j10 && L0.all (VM P ops nt) && R.all (VM P ops nt) && R.all Y7 && R.all (JSS d8 d i z) &&
   JdV (items.filterMap Item.alloc?) && (items.filterMap Item.alloc?).all (λj=>decide (j<allocs.length)) && allocs.all (belowL 0) &&
   Jgw ops tab && Jio tab items && JdV (items.map (·.ix)) && !(items.map (·.ix)).contains j9 && !(items.map (·.ix)).contains j10 && j9 != j10 && decide (j9<ops.size) && decide (j10<ops.size) && items.length+2 == ops.size &&
   (List.range ops.size).all (λk=>(items.map (·.ix)).contains k || k == j9 || k == j10) && items.all (λit=>decide (it.ix<ops.size)) &&
   (tab.getD j10 0).testBit j9 && (tab.getD j9 0).testBit x.ix && (tab.getD j10 0).testBit x.ix && L0.all (λk=>(tab.getD x.ix 0).testBit k.ix) && R.all (λk=>(tab.getD k.ix 0).testBit x.ix) && Jlr tab R &&
   Jcw .any ops (List.range ops.size) && (!Region.departs ops ||(Jcw .text ops (List.range ops.size) && Jcw .gc ops (Region.linearise .gc ops 0)))
  | _,_=>false
 | none=>false
def Yn(P:Program)(nt:Nat):IC->Code->Bool
 | .skip,.skip=>true
 | .region allocs items _,.region _ ops draw=>Jbd P nt allocs items ops draw || JbD P nt allocs items ops draw
 | .seq a b,.seq x y=>Yn P nt a x && Yn P nt b y
 | .cond c a b,.cond c' x y=>Vp c c' && Yn P nt a x && Yn P nt b y
 | .block id b,.block id' c=>id == id' && Yn P nt b c
 | .loop _ b,.loop c=>Yn P nt b c
 | .exit id,.exit id'=>id == id'
 | .ret,.ret=>true
 | .stuck,_=>true
 | _,_=>false
def Exr(K:Ghost):Ex->Exit->Prop
 | .normal,.normal=>True
 | .exit id,.exit id'=>id=id'
 | .ret,.ret=>True
 | .panic v,.panic c=>∃ u,c=[{v:=u,recovered:=false}]/\Rep K v u
 | _,_=>False
def ZO:Ex->Prop
 | .panic _=>False
 | _=>True
def Sim(P:Program)(b0 _nt:Nat)(K:Ghost)(S:St)(w:World)(a:Act)(c:Code)(r:Ex×KC×St):Prop:=
 ∀ Q:Exit->Act->World->Prop,(∀ a' w' K' en,Rel K' r.2.2 w'->(ZO r.1->EnvRep K' (Jj r.2.1) a'.tmps)->a'.defers=a.defers->(ZO r.1->a'.tmps.size=a.tmps.size) ->
  Step K (λn=>n<S.heap.length) w K' w'->Keeps b0 S r.2.2->Exr K' r.1 en->Q en a' w')->c.wp P Q a w
theorem Jip:∀{l:List Nat} {e:KC} {t:Nat} {v:AV},Jj (keep l e) t=some v->Jj e t=some v
 | [],e,t,v,h=>by simp[keep,Jj]at h
 | x::l,e,t,v,h=>by
  simp only[keep,BY]at h;cases hx:Jj e x with
  | none=>simp only[hx,B4]at h;exact Jip (l:=l) h
  | some u=>
   simp only[hx,A9,Jj]at h;split at h
   ·rename_i hxt;subst hxt;simp only[V]at h;rw[hx,h]
   ·exact Jip (l:=l) h
theorem EnvRep.keep{K:Ghost}{e:KC}{tmps:Array Value}(h:EnvRep K (Jj e) tmps)(l:List Nat):EnvRep K (Jj (Ai.keep l e)) tmps:=
 λt v hv=>h t v (Jip hv)
theorem Rel.drew{K:Ghost}{S:St}{w:World}(R:Rel K S w):Rel K S w.drew:=⟨R.dom,R.inj,R.sep,R.cells,R.maps,R.rows,R.grow⟩
theorem Step.drew(K:Ghost)(X:Nat->Prop)(w:World):Step K X w K w.drew:=⟨Ext.refl K,rfl,rfl,rfl,Ao _,λ_ _ _ _=>rfl,λ_ _ h1 h2=>⟨h1,h2⟩,λ_ _ h=>h,λ_ x h=>.inl ⟨x,h⟩⟩
theorem Rel.reserve{K:Ghost}{S:St}{w:World}(R:Rel K S w)(bs:List Blk):Rel K {S with heap:=S.heap++bs} w:=by
 refine⟨?_,R.inj,R.sep,?_,?_,R.rows,R.grow⟩
 ·intro n B hm;have:=R.dom n B hm;simp;omega
 ·intro n B cs hm hb;have:=R.dom n B hm;simp only at hb;rw[AZ this]at hb;exact R.cells n B cs hm hb
 ·intro n B es hm hb;have:=R.dom n B hm;simp only at hb;rw[AZ this]at hb;exact R.maps n B es hm hb
theorem JaY{b0:Nat}{S:St}(h:b0<=S.heap.length){bs:List Blk}(hb:∀ b∈bs,Jcn 0 b=true):Keeps b0 S {S with heap:=S.heap++bs}:=by
 refine⟨Ag,λk hk hI n blk hn hbl=>hI n blk hn ?_,λhI n blk hn hbl=>?_⟩
 ·simp only at hbl
  rwa [AZ O]at hbl
 ·simp only at hbl hn;by_cases hnl:n<S.heap.length
  ·rw[AZ hnl]at hbl;exact Jcs Ag _ (hI n blk hnl hbl)
  ·rw[B9 O]at hbl;exact Jcs (Dk _) _ (hb blk (Aq hbl))
theorem JoY{b0 nt n id:Nat}{cl:Ky}{allocs:List (List AV)}{items:List Item}{kp:List Nat}{ops:Array Oper}{draw:Bool}{K:Ghost}{S:St}{w:World}{a:Act}{e:KC}{r:Ex×KC×St}
  (hcl:VF P cl) (hc:Jbd P nt allocs items ops draw=true) (R:Rel K S w) (hsc:VL S.heap.length S) (E:EnvRep K (Jj e) a.tmps) (hnt:nt<=a.tmps.size) (hb0:b0<=S.heap.length)
  (hx:Qr b0 cl n (.region allocs items kp) e S=some r):Sim P b0 nt K S w a (.region id ops draw) r:=by
 intro Q hQ;simp only[Jbd,Ah,Bo,decide_eq_true_eq]at hc;obtain⟨⟨⟨⟨h1,h2⟩,h3⟩,h4⟩,h5⟩:=hc;have R1:=R.reserve (allocs.map Blk.cells);have hkr:Keeps b0 S {S with heap:=S.heap++allocs.map Blk.cells}:=JaY hb0 (λb hb=>by obtain⟨cs,hcs,rfl⟩:=Bw.1 hb;exact h4 cs hcs)
 have hpd:Pend K S.heap.length {S with heap:=S.heap++allocs.map Blk.cells} items:=by
  refine⟨λit hi m hm=>?_,λit hi m hm=>?_,Yb h2⟩
  ·obtain⟨j,hj,rfl⟩:=VA.1 hm;exact R.none_ge O
  ·obtain⟨j,hj,rfl⟩:=VA.1 hm;have:=h3 j (CW.2 ⟨it,hi,hj⟩);simp;omega
 obtain⟨rr,e1,S1,hrun,hnorm,hpan⟩:∃ rr e1 S1,run b0 cl S.heap.length [] items e {S with heap:=S.heap++allocs.map Blk.cells}=some (rr,e1,S1)/\(rr=none->r=(.normal,keep kp e1,S1))/\(∀ v,rr=some v->r=(.panic v,e1,S1)):=by
  simp only[Qr]at hx;split at hx
  ·rename_i e1 S1 hrun;simp only[V]at hx;exact⟨none,e1,S1,hrun,λ_=>hx.symm,λv h=>by cases h⟩
  ·rename_i v e1 S1 hrun;simp only[V]at hx;exact⟨some v,e1,S1,hrun,(λh=>by cases h),λv' h=>by cases h;exact hx.symm⟩
  ·simp at hx
 have hk:∀(w0:World),Step K (λn=>n<S.heap.length) w K w0->∀ a' w' K',rr=none->Rel K' S1 w'->EnvRep K' (Jj e1) a'.tmps->a'.tmps.size=a.tmps.size->a'.defers=a.defers->Step K (λn=>n<S.heap.length) w0 K' w'->Keeps b0 {S with heap:=S.heap++allocs.map Blk.cells} S1->Q .normal a' w':=by intro w0 hw0 a' w' K' hr R' E' hsz hdf hst hkp;have:=hnorm hr;subst this;exact hQ a' w' K' .normal R' (λ_=>E'.keep kp) hdf (λ_=>hsz) (hw0.trans hst (λ_ h=>h)) (hkr.trans hkp) trivial
 have hp:∀(w0:World),Step K (λn=>n<S.heap.length) w K w0->∀ v u a' w' K',rr=some v->Rep K' v u->Rel K' S1 w'->a'.defers=a.defers->Step K (λn=>n<S.heap.length) w0 K' w'->Keeps b0 {S with heap:=S.heap++allocs.map Blk.cells} S1->Q (.panic [{v:=u,recovered:=false}]) a' w':=by intro w0 hw0 v u a' w' K' hr hrep R' hdf hst hkp;have:=hpan v hr;subst this;exact hQ a' w' K' (.panic [{v:=u,recovered:=false}]) R' (λh=>by cases h) hdf (λh=>by cases h) (hw0.trans hst (λ_ h=>h)) (hkr.trans hkp) ⟨u,rfl,hrep⟩
 cases draw with
 | false=>simp only[AT,if_false,beq_iff_eq]at h5;refine wp_region ?_;rw[<- h5];exact Jkd (N:=S.heap.length) hcl items [] K _ w a e e1 rr S1 h1 R1 (hkr.2.2 hsc) E hnt AR Ag hpd (Ao _) hrun (hk w (Step.refl _ _ _)) (hp w (Step.refl _ _ _))
 | true=>
  simp only[if_true,Ah,beq_iff_eq,Bo,Bp,Bb]at h5;obtain⟨⟨⟨⟨⟨⟨g1,g2⟩,g3⟩,g4⟩,g5⟩,g6⟩,g7⟩:=h5;obtain⟨c1,c2⟩:=JaP g2;refine wp_region_draw λt=>?_;have key:∀(md:Region.Mode) (M:List Nat) (t':Nat),(∀ e,Region.binds .any e=true->Region.binds md e=true)->Jcw md ops M=true ->
    wpOps P ops Q (Region.linearise md ops t') a {w with drawn:=w.drawn+1}:=by
   intro md M t' hmd hM;refine wpAny_sound ops.size t' _ a _ ?_;refine JmW (N:=S.heap.length) hcl hmd g1 hM ops.size items _ K _ w.drew a e e1 rr S1 g4 Ag ?_ ?_ (Yb g3) c1 c2 h1 R1.drew (hkr.2.2 hsc) E hnt AR Ag hpd (Ao _) hrun (hk _ (Step.drew _ _ _)) (hp _ (Step.drew _ _ _))
   ·intro i o ed _ hl;exfalso;simp only[AX,BE]at hl;split at hl <;> simp at hl
   ·intro i;constructor
    ·intro hl;simp only[AX,BE]at hl;split at hl
     ·rename_i hlt;have:=g5 i (Cc.2 hlt);simpa using this
     ·simp at hl
    ·intro hi;obtain⟨x,hx,rfl⟩:=Bw.1 hi;have hxc:=h1 x hx;unfold VM at hxc;split at hxc
     ·rename_i o ho;have hlt:=(AQ.1 ho).1;simp only[AX,BE];rw[if_pos hlt];rfl
     ·simp at hxc
  unfold Region.schedule;split
  ·exact key .any _ t (λ_ h=>h) g6
  ·rename_i hnd;simp only[Bp,Bb,not_or,DD]at hnd;rcases g7 with g7 |⟨g7,g8⟩
   ·rw[g7]at hnd;exact absurd hnd.2 Ag
   ·split
    ·refine key .text _ _ (λe h=>?_) g7;cases hg:e.ground <;> simp[Region.binds,hg]at h |-
    ·refine key .gc _ _ (λe h=>?_) g8;cases hg:e.ground <;> simp[Region.binds,hg]at h |-
theorem JmZ{b0 nt n id:Nat}{cl:Ky}{allocs:List (List AV)}{items:List Item}{kp:List Nat}{ops:Array Oper}{draw:Bool}{K:Ghost}{S:St}{w:World}{a:Act}{e:KC}{r:Ex×KC×St}
  (hcl:VF P cl) (hc:JbD P nt allocs items ops draw=true) (R:Rel K S w) (hsc:VL S.heap.length S) (E:EnvRep K (Jj e) a.tmps) (hnt:nt<=a.tmps.size) (hb0:b0<=S.heap.length)
  (hx:Qr b0 cl n (.region allocs items kp) e S=some r):Sim P b0 nt K S w a (.region id ops draw) r:=by
 intro Q hQ;unfold JbD at hc;rw[Ah]at hc;obtain⟨rfl,hc⟩:=hc;split at hc
 ·rename_i L0 x R0 hsp;split at hc
  ·rename_i sz by_ ax yx ix zx d j9 j10 re d8 hop8 hd8;simp only[Ah,beq_iff_eq,decide_eq_true_eq,bne_iff_ne,ne_eq,Bb,BD,decide_eq_false_iff_not,Bo,Bp]at hc;obtain⟨⟨⟨⟨⟨⟨⟨⟨⟨⟨⟨⟨⟨⟨⟨⟨⟨⟨⟨⟨⟨⟨⟨⟨⟨⟨hc8,h1⟩,h1R⟩,hlate⟩,hdB⟩,h2⟩,h3⟩,h4⟩,g1⟩,g2⟩,g3⟩,hn9⟩,hn10⟩,hj⟩,hj9⟩,hj10⟩,g4⟩,g5⟩,gix⟩,h910⟩,h89⟩,h810⟩,hb8⟩,h8R⟩,hch⟩,g6⟩,g7⟩:=hc;obtain rfl:=Jgx hsp;have R1:=R.reserve (allocs.map Blk.cells);have hkr:Keeps b0 S {S with heap:=S.heap++allocs.map Blk.cells}:=JaY hb0 (λb hb=>by obtain⟨cs,hcs,rfl⟩:=Bw.1 hb;exact h4 cs hcs)
   have hpd:Pend K S.heap.length {S with heap:=S.heap++allocs.map Blk.cells} (L0++x::R0):=by
    refine⟨λit hi m hm=>?_,λit hi m hm=>?_,Yb h2⟩
    ·obtain⟨j,hj,rfl⟩:=VA.1 hm;exact R.none_ge O
    ·obtain⟨j,hj,rfl⟩:=VA.1 hm;have:=h3 j (CW.2 ⟨it,hi,hj⟩);simp;omega
   obtain⟨rr,e1,S1,hrun,hnorm,hpan⟩:∃ rr e1 S1,run b0 cl S.heap.length [] (L0++x::R0) e {S with heap:=S.heap++allocs.map Blk.cells}=some (rr,e1,S1)/\(rr=none->r=(.normal,keep kp e1,S1))/\(∀ v,rr=some v->r=(.panic v,e1,S1)):=by
    simp only[Qr]at hx;split at hx
    ·rename_i e1 S1 hrun;simp only[V]at hx;exact⟨none,e1,S1,hrun,λ_=>hx.symm,λv h=>by cases h⟩
    ·rename_i v e1 S1 hrun;simp only[V]at hx;exact⟨some v,e1,S1,hrun,(λh=>by cases h),λv' h=>by cases h;exact hx.symm⟩
    ·simp at hx
   have hk:∀(w0:World),Step K (λn=>n<S.heap.length) w K w0->∀ a' w' K',rr=none->Rel K' S1 w'->EnvRep K' (Jj e1) a'.tmps->a'.tmps.size=a.tmps.size->a'.defers=a.defers->Step K (λn=>n<S.heap.length) w0 K' w'->Keeps b0 {S with heap:=S.heap++allocs.map Blk.cells} S1->Q .normal a' w':=by intro w0 hw0 a' w' K' hr R' E' hsz hdf hst hkp;have:=hnorm hr;subst this;exact hQ a' w' K' .normal R' (λ_=>E'.keep kp) hdf (λ_=>hsz) (hw0.trans hst (λ_ h=>h)) (hkr.trans hkp) trivial
   have hp:∀(w0:World),Step K (λn=>n<S.heap.length) w K w0->∀ v u a' w' K',rr=some v->Rep K' v u->Rel K' S1 w'->a'.defers=a.defers->Step K (λn=>n<S.heap.length) w0 K' w'->Keeps b0 {S with heap:=S.heap++allocs.map Blk.cells} S1->Q (.panic [{v:=u,recovered:=false}]) a' w':=by intro w0 hw0 v u a' w' K' hr hrep R' hdf hst hkp;have:=hpan v hr;subst this;exact hQ a' w' K' (.panic [{v:=u,recovered:=false}]) R' (λh=>by cases h) hdf (λh=>by cases h) (hw0.trans hst (λ_ h=>h)) (hkr.trans hkp) ⟨u,rfl,hrep⟩
   obtain⟨c1,c2⟩:=JaP g2;have hdst:∀ it∈R0,∀ t,it.dst=some t->(t≠d8/\t ∉ ix.reads/\t ∉ zx.reads)/\t≠d:=by intro it hi t ht;have:=hdB it hi;simp only[JSS,ht,Ah,bne_iff_ne,ne_eq,Bb,BD,decide_eq_false_iff_not]at this;exact⟨⟨this.1.1.1,this.1.1.2,this.1.2⟩,this.2⟩
   have hd:(d≠d8/\d ∉ ix.reads/\d ∉ zx.reads)/\d<nt:=by have h:=hc8;unfold JmY at h;simp only[Ah,beq_iff_eq,decide_eq_true_eq,bne_iff_ne,ne_eq,Bb,BD,decide_eq_false_iff_not]at h;obtain⟨⟨⟨⟨⟨⟨⟨⟨⟨⟨⟨⟨_,_⟩,_⟩,e1⟩,e2⟩,_⟩,_⟩,e3⟩,e4⟩,_⟩,_⟩,_⟩,_⟩:=h;exact⟨⟨e2,e3,e4⟩,e1⟩
   refine wp_region_draw λt=>?_;have key:∀(md:Region.Mode) (M:List Nat) (t':Nat),(∀ e,Region.binds .any e=true->Region.binds md e=true)->Jcw md ops M=true ->
     wpOps P ops Q (Region.linearise md ops t') a {w with drawn:=w.drawn+1}:=by
    intro md M t' hmd hM;refine wpAny_sound ops.size t' _ a _ ?_;refine Jse (N:=S.heap.length) hcl hmd g1 hM hc8 hop8 hj hj9 hj10 h910 h89 h810 h1R hlate (Jgy hch) h8R hdst hd.1 hd.2 ops.size L0 _ K _ w.drew a e e1 rr S1 (by simp at g4;omega) hb8 Ag ?_ ?_ (Yb g3) hn9 hn10 c1 c2 h1 R1.drew (hkr.2.2 hsc) E hnt AR Ag hpd (Ao _) hrun (hk _ (Step.drew _ _ _)) (hp _ (Step.drew _ _ _))
    ·intro i o ed _ hl;exfalso;simp only[AX,BE]at hl;split at hl <;> simp at hl
    ·intro i;constructor
     ·intro hl;simp only[AX,BE]at hl;split at hl
      ·rename_i hlt;have:=g5 i (Cc.2 hlt);rcases this with(h |h) |h
       ·exact .inl h
       ·exact .inr (.inl h)
       ·exact .inr (.inr h)
      ·simp at hl
     ·intro hi;have hlt:i<ops.size:=by
       rcases hi with hi |rfl |rfl
       ·obtain⟨y,hy,rfl⟩:=Bw.1 hi;exact gix y hy
       ·exact hj9
       ·exact hj10
      simp only[AX,BE];rw[if_pos hlt];rfl
   unfold Region.schedule;split
   ·exact key .any _ t (λ_ h=>h) g6
   ·rename_i hnd;simp only[Bp,Bb,not_or,DD]at hnd;rcases g7 with g7 |⟨g7,g8⟩
    ·rw[g7]at hnd;exact absurd hnd.2 Ag
    ·split
     ·refine key .text _ _ (λe h=>?_) g7;cases hg:e.ground <;> simp[Region.binds,hg]at h |-
     ·refine key .gc _ _ (λe h=>?_) g8;cases hg:e.ground <;> simp[Region.binds,hg]at h |-
  ·simp at hc
 ·simp at hc
theorem Jkf{c:Code}{Q:Exit->Act->World->Prop}(J:Nat->Act->World->Prop)(h0:∀ a w,¬ J 0 a w)(round:∀ n a w,J (n+1) a w->c.wp P (Exit.then (λa' w'=>J n a' w') Q) a w){n:Nat}{a:Act}{w:World}(h:J n a w) :
  (Code.loop c).wp P Q a w:=by
 intro b k cs;have key:∀ n a w,J n a w->∃ e a' w',Q e a' w'/\Arrives P (lone (b.at a (.code c::.inLoop c::k)) cs w) b k cs e a' w':=by
  intro n;induction n with
  | zero=>intro a w h;exact absurd h (h0 a w)
  | succ n ih=>
   intro a w hI;obtain⟨e,a₁,w₁,hq,harr⟩:=round n a w hI b (.inLoop c::k) cs;cases e with
   | normal=>obtain⟨e₂,a₂,w₂,hq₂,harr₂⟩:=ih a₁ w₁ hq;exact⟨e₂,a₂,w₂,hq₂,.of_steps (Steps.trans harr (.one step_inLoop)) harr₂⟩
   | exit id=>exact⟨_,a₁,w₁,hq,.pass (x:=.inLoop c) rfl (λ_ _=>.inl Ag) harr⟩
   | goto l=>exact⟨_,a₁,w₁,hq,.pass (x:=.inLoop c) rfl (λ_ _=>.inl Ag) harr⟩
   | ret=>exact⟨_,a₁,w₁,hq,.pass (x:=.inLoop c) rfl (λ_ _=>.inl Ag) harr⟩
   | panic ch=>exact⟨_,a₁,w₁,hq,.pass (x:=.inLoop c) rfl (λ_ _=>.inl Ag) harr⟩
   | outgrown=>exact⟨_,a₁,w₁,hq,.pass (x:=.inLoop c) rfl (λ_ _=>.inl Ag) harr⟩
 obtain⟨e,a',w',hq,harr⟩:=key n a w h;exact⟨e,a',w',hq,.of_steps (.one step_loop) harr⟩
theorem Jdx{b0 nt n:Nat}{cl:Ky}(hcl:VF P cl):∀(ic:IC) (c:Code) (K:Ghost) (S:St) (w:World) (a:Act) (e:KC) (r:Ex×KC×St),Yn P nt ic c=true->Rel K S w->VL S.heap.length S->EnvRep K (Jj e) a.tmps->nt<=a.tmps.size->b0<=S.heap.length ->
  Qr b0 cl n ic e S=some r->Sim P b0 nt K S w a c r
 | .skip,c,K,S,w,a,e,r,hc,R,_,E,_,_,hx=>by
  cases c <;> simp[Yn]at hc
  intro Q hQ;simp only[Qr,V]at hx;subst hx;exact wp_skip (hQ a w K .normal R (λ_=>E) rfl (λ_=>rfl) (Step.refl _ _ _) (KY _ _) trivial)
 | .exit id,c,K,S,w,a,e,r,hc,R,_,E,_,_,hx=>by
  cases c <;> simp[Yn]at hc
  subst hc;intro Q hQ;simp only[Qr,V]at hx;subst hx;exact wp_exit (hQ a w K (.exit id) R (λ_=>E) rfl (λ_=>rfl) (Step.refl _ _ _) (KY _ _) rfl)
 | .stuck,c,K,S,w,a,e,r,hc,R,_,E,_,_,hx=>by simp[Qr]at hx
 | .ret,c,K,S,w,a,e,r,hc,R,_,E,_,_,hx=>by
  cases c <;> simp[Yn]at hc
  intro Q hQ;simp only[Qr,V]at hx;subst hx;exact wp_ret (hQ a w K .ret R (λ_=>E) rfl (λ_=>rfl) (Step.refl _ _ _) (KY _ _) trivial)
 | .region allocs items kp,c,K,S,w,a,e,r,hc,R,hsc,E,hnt,hb0,hx=>by
  cases c <;> simp only[Yn,AT,Bp]at hc
  rcases hc with hc |hc
  ·exact JoY hcl hc R hsc E hnt hb0 hx
  ·exact JmZ hcl hc R hsc E hnt hb0 hx
 | .cond x i j,c,K,S,w,a,e,r,hc,R,hsc,E,hnt,hb0,hx=>by
  cases c <;> simp only[Yn,AT,Ah]at hc
  obtain⟨⟨h1,h2⟩,h3⟩:=hc;intro Q hQ;simp only[Qr]at hx;split at hx
  ·rename_i hv;have hr:=JA E h1 hv;simp only[Rep]at hr;exact wp_cond_true hr (Jdx hcl i _ K S w a e r h2 R hsc E hnt hb0 hx Q hQ)
  ·rename_i hv;have hr:=JA E h1 hv;simp only[Rep]at hr;exact wp_cond_false hr (Jdx hcl j _ K S w a e r h3 R hsc E hnt hb0 hx Q hQ)
  ·simp at hx
 | .seq i j,c,K,S,w,a,e,r,hc,R,hsc,E,hnt,hb0,hx=>by
  cases c <;> simp only[Yn,AT,Ah]at hc
  obtain⟨h1,h2⟩:=hc;intro Q hQ;simp only[Qr]at hx;refine wp_seq ?_;split at hx
  ·rename_i e1 S1 h;refine Jdx hcl i _ K S w a e _ h1 R hsc E hnt hb0 h _ ?_;intro a1 w1 K1 en R1 E1 hdf hsz hst hkp hex;cases en <;> simp only[Exr]at hex
   have hsz':=hsz trivial;refine Jdx hcl j _ K1 S1 w1 a1 e1 r h2 R1 (hkp.2.2 hsc) (E1 trivial) O (by have:=hkp.1;simp at this;omega) hx Q ?_;intro a2 w2 K2 en R2 E2 hdf2 hsz2 hst2 hkp2 hex2;exact hQ a2 w2 K2 en R2 E2 (hdf2.trans hdf) (λh=>by rw[hsz2 h,hsz']) (hst.trans hst2 (λm hm=>Bh hm hkp.1)) (hkp.trans hkp2) hex2
  ·rename_i hne;refine Jdx hcl i _ K S w a e r h1 R hsc E hnt hb0 hx _ ?_;intro a1 w1 K1 en R1 E1 hdf hsz hst hkp hex;have hnn:r.1≠.normal:=by intro h;obtain⟨ex,e1,S1⟩:=r;simp only at h;subst h;exact hne e1 S1 hx
   cases en with
   | normal=>
    exfalso;cases hr:r.1 <;> rw[hr]at hex <;> simp only[Exr]at hex
    exact hnn hr
   | _=>exact hQ a1 w1 K1 _ R1 E1 hdf hsz hst hkp hex
 | .block id i,c,K,S,w,a,e,r,hc,R,hsc,E,hnt,hb0,hx=>by
  cases c <;> simp only[Yn,AT,Ah,beq_iff_eq]at hc
  obtain⟨rfl,h2⟩:=hc;intro Q hQ;simp only[Qr]at hx;refine wp_block ?_;split at hx
  ·rename_i id' e1 S1 h;refine Jdx hcl i _ K S w a e _ h2 R hsc E hnt hb0 h _ ?_;intro a1 w1 K1 en R1 E1 hdf hsz hst hkp hex;cases en <;> simp only[Exr]at hex
   subst hex;simp only[Exit.inBlock];split at hx
   ·rename_i hid;simp only[V]at hx;subst hx;rw[if_pos hid];exact hQ a1 w1 K1 .normal R1 (λ_=>E1 trivial) hdf (λ_=>hsz trivial) hst hkp trivial
   ·rename_i hid;simp only[V]at hx;subst hx;rw[if_neg hid];exact hQ a1 w1 K1 _ R1 (λ_=>E1 trivial) hdf (λ_=>hsz trivial) hst hkp rfl
  ·rename_i hne;refine Jdx hcl i _ K S w a e r h2 R hsc E hnt hb0 hx _ ?_;intro a1 w1 K1 en R1 E1 hdf hsz hst hkp hex;cases en with
   | exit id'=>
    exfalso;cases hr:r.1 <;> rw[hr]at hex <;> simp only[Exr]at hex
    obtain⟨ex,e1,S1⟩:=r;simp only at hr;subst hr;exact hne _ e1 S1 hx
   | _=>exact hQ a1 w1 K1 _ R1 E1 hdf hsz hst hkp hex
 | .loop kp i,c,K,S,w,a,e,r,hc,R,hsc,E,hnt,hb0,hx=>by
  cases c <;> simp only[Yn,AT]at hc
  rename_i c;intro Q hQ;simp only[Qr]at hx;refine Jkf (P:=P) (n:=n) (λm a1 w1=>∃ K1 S1 e1,Rel K1 S1 w1/\EnvRep K1 (Jj e1) a1.tmps/\a1.tmps.size=a.tmps.size/\a1.defers=a.defers/\Step K (λn=>n<S.heap.length) w K1 w1/\Keeps b0 S S1/\JdU (Qr b0 cl n i) kp m e1 S1=some r) ?_ ?_ ⟨K,S,e,R,E,rfl,rfl,Step.refl _ _ _,KY _ _,hx⟩
  ·rintro a1 w1 ⟨K1,S1,e1,_,_,_,_,_,_,h⟩;simp[JdU]at h
  ·rintro m a1 w1 ⟨K1,S1,e1,R1,E1,hsz1,hdf1,hst1,hkp1,h⟩;simp only[JdU]at h;have hb1:b0<=S1.heap.length:=by have:=hkp1.1;omega
   split at h
   ·rename_i e2 S2 hb;refine Jdx hcl i c K1 S1 w1 a1 _ _ hc R1 (hkp1.2.2 hsc) (E1.keep kp) O hb1 hb _ ?_;intro a2 w2 K2 en R2 E2 hdf hsz hst hkp hex;cases en <;> simp only[Exr]at hex
    exact⟨K2,S2,e2,R2,E2 trivial,(hsz trivial).trans hsz1,hdf.trans hdf1,hst1.trans hst (λm hm=>Bh hm hkp1.1),hkp1.trans hkp,h⟩
   ·rename_i hne;refine Jdx hcl i c K1 S1 w1 a1 _ r hc R1 (hkp1.2.2 hsc) (E1.keep kp) O hb1 h _ ?_;intro a2 w2 K2 en R2 E2 hdf hsz hst hkp hex;have hnn:r.1≠.normal:=by intro hr;obtain⟨ex,e2,S2⟩:=r;simp only at hr;subst hr;exact hne e2 S2 h
    cases en with
    | normal=>
     exfalso;cases hr:r.1 <;> rw[hr]at hex <;> simp only[Exr]at hex
     exact hnn hr
    | _=>exact hQ a2 w2 K2 _ R2 E2 (hdf.trans hdf1) (λh=>(hsz h).trans hsz1) (hst1.trans hst (λm hm=>Bh hm hkp1.1)) (hkp1.trans hkp) hex
variable {P:Program}
open Classical in
def shut(K:Ghost)(n0:Nat)(w:World):Ghost where
 m n:=if n<n0 then K.m n else none
 g B:=match K.g B with
  | some l=>some l
  | none=>if h:∃ n vs t,n0<=n/\K.m n=some B/\w.heap[B]? = some (.cells vs t (0,0))then some (Classical.choose (BB h)).toList else none
 a:=K.a
theorem Zt{K:Ghost}{n0 B:Nat}{w:World}{l:List Value}(h:K.g B=some l):(shut K n0 w).g B=some l:=by simp[shut,h]
theorem JoZ{K:Ghost}{n0 n B:Nat}{w:World}{vs:Array Value}{t:TypeId}(hg:K.g B=none)(hn:n0<=n)(hm:K.m n=some B)(hw:w.heap[B]? = some (.cells vs t (0,0))):(shut K n0 w).g B=some vs.toList:=by
 have h:∃ n vs t,n0<=n/\K.m n=some B/\w.heap[B]? = some (.cells vs t (0,0)):=⟨n,vs,t,hn,hm,hw⟩
 simp only[shut,hg];rw[dif_pos h];obtain⟨t',_,_,h2⟩:=BB (BB h);have h3:=hw.symm.trans h2;simp only[V,Obj.cells.injEq]at h3;rw[<- h3.1]
theorem Jcy{K:Ghost}{n0 B:Nat}{w:World}{l:List Value}(h:(shut K n0 w).g B=some l):K.g B=some l\/(K.g B=none/\∃ n vs t,n0<=n/\K.m n=some B/\w.heap[B]? = some (.cells vs t (0,0))/\l=vs.toList):=by
 cases hg:K.g B with
 | some l'=>left;rw[Zt hg]at h;exact h
 | none=>
  right;simp only[shut,hg]at h;split at h
  ·rename_i hh;obtain⟨t',h1,h2,h3⟩:=BB (BB hh);simp only[V]at h;exact⟨rfl,_,_,t',h1,h2,h3,h.symm⟩
  ·cases h
mutual
theorem ZZ(n:Nat):∀(a:AV),J7 a=true->Ai.below n a=true
 | .ptr _ _,h=>by simp[J7]at h
 | .arr _ _ _ _,h=>by simp[J7]at h
 | .map _,h=>by simp[J7]at h
 | .func _ a b,h=>by simp only[J7,Ah]at h;simp only[Ai.below,Ah];exact⟨Q5 n a h.1,Q5 n b h.2⟩
 | .iface _ v,h=>by simp only[J7]at h;simp only[Ai.below];exact ZZ n v h
 | .agg cs,h=>by simp only[J7]at h;simp only[Ai.below];exact Q5 n cs h
 | .tup cs,h=>by simp only[J7]at h;simp only[Ai.below];exact Q5 n cs h
 | .bool _,_=>rfl
 | .int _ _,_=>rfl
 | .str _,_=>rfl
 | .nilp,_=>rfl
 | .ref cs,h=>by simp only[J7]at h;simp only[Ai.below];exact Q5 n cs h
 | .list _ _ _,_=>rfl
 | .nilm,_=>rfl
 | .nilf,_=>rfl
 | .nili,_=>rfl
 | .undef,_=>rfl
theorem Q5(n:Nat):∀(a:List AV),Kl a=true->belowL n a=true
 | [],_=>rfl
 | a::as,h=>by simp only[Kl,Ah]at h;simp only[belowL,Ah];exact⟨ZZ n a h.1,Q5 n as h.2⟩
end
theorem Jm0{K:Ghost}{n0 B o:Nat}{w:World}{vs:List Value}(h:K.fix B o vs):(shut K n0 w).fix B o vs:=by obtain⟨l,hg,hl⟩:=h;exact⟨l,Zt hg,hl⟩
theorem Jtx{K:Ghost}{n0:Nat}{w:World}{sz:Nat}{tag:Tag}{len cap B o:Nat}(h:K.tagOk sz tag len cap B o):(shut K n0 w).tagOk sz tag len cap B o:=by
 refine⟨h.1,?_⟩;replace h:=h.2;cases tag with
 | full=>exact h
 | still=>exact h
 | dead=>trivial
 | row b e=>refine⟨h.1,λhlt=>?_⟩;obtain⟨E,size,l,ha,hg,rest⟩:=h.2 hlt;exact⟨E,size,l,ha,Zt hg,rest⟩
mutual
theorem Rep.shut{K:Ghost}{n0:Nat}{w:World}:∀(a:AV) (v:Value),Rep K a v->Ai.below n0 a=true->Rep (Ai.shut K n0 w) a v
 | .bool _,_,r,_=>by simpa only[Rep] using r
 | .int _ _,_,r,_=>by simpa only[Rep] using r
 | .str _,_,r,_=>by simpa only[Rep] using r
 | .nilp,_,r,_=>by simpa only[Rep] using r
 | .nilm,_,r,_=>by simpa only[Rep] using r
 | .nilf,_,r,_=>by simpa only[Rep] using r
 | .nili,_,r,_=>by simpa only[Rep] using r
 | .undef,_,r,_=>by simpa only[Rep] using r
 | .ptr n off,v,r,hb=>by simp only[Rep]at r |-;simp only[Ai.below,decide_eq_true_eq]at hb;obtain⟨B,hm,hv⟩:=r;exact⟨B,by simp only[Ai.shut,if_pos hb];exact hm,hv⟩
 | .map n,v,r,hb=>by simp only[Rep]at r |-;simp only[Ai.below,decide_eq_true_eq]at hb;obtain⟨B,hm,hv⟩:=r;exact⟨B,by simp only[Ai.shut,if_pos hb];exact hm,hv⟩
 | .arr n off sz len,v,r,hb=>by simp only[Rep]at r |-;simp only[Ai.below,decide_eq_true_eq]at hb;obtain⟨B,cap,hm,hlc,hv⟩:=r;exact⟨B,cap,by simp only[Ai.shut,if_pos hb];exact hm,hlc,hv⟩
 | .ref cs,v,r,hb=>by simp only[Rep]at r |-;simp only[Ai.below]at hb;obtain⟨B,o,vs,hv,hf,hr⟩:=r;exact⟨B,o,vs,hv,Jm0 hf,RepL.shut cs vs hr hb⟩
 | .list sz tag rows,v,r,_=>by simp only[Rep]at r |-;obtain⟨base,cap,hv,hc,hs,hr⟩:=r;refine⟨base,cap,hv,hc,hs,hr.imp id ?_⟩;rintro⟨B,o,vs,hb,hf,hr,ht⟩;exact⟨B,o,vs,hb,Jm0 hf,RepLL.shut rows vs hr (λr hr'=>Q5 n0 r (hs r hr').2),Jtx ht⟩
 | .func f a b,v,r,hb=>by simp only[Rep]at r |-;simp only[Ai.below,Ah]at hb;obtain⟨us,vs,hv,h1,h2⟩:=r;exact⟨us,vs,hv,RepT.shut a us h1 hb.1,RepT.shut b vs h2 hb.2⟩
 | .iface t x,v,r,hb=>by simp only[Rep]at r |-;simp only[Ai.below]at hb;obtain⟨u,hv,h1⟩:=r;exact⟨u,hv,Rep.shut x u h1 hb⟩
 | .agg cs,v,r,hb=>by simp only[Rep]at r |-;simp only[Ai.below]at hb;obtain⟨vs,hv,h1⟩:=r;exact⟨vs,hv,RepL.shut cs vs h1 hb⟩
 | .tup cs,v,r,hb=>by simp only[Rep]at r |-;simp only[Ai.below]at hb;obtain⟨vs,hv,h1⟩:=r;exact⟨vs,hv,RepT.shut cs vs h1 hb⟩
theorem RepL.shut{K:Ghost}{n0:Nat}{w:World}:∀(a:List AV) (v:List Value),RepL K a v->belowL n0 a=true->RepL (Ai.shut K n0 w) a v
 | [],_,r,_=>by simpa only[RepL] using r
 | a::as,v,r,hb=>by simp only[RepL]at r |-;simp only[belowL,Ah]at hb;obtain⟨u,us,hv,h1,h2,h3⟩:=r;exact⟨u,us,hv,h1,Rep.shut a u h2 hb.1,RepL.shut as us h3 hb.2⟩
theorem RepT.shut{K:Ghost}{n0:Nat}{w:World}:∀(a:List AV) (v:List Value),RepT K a v->belowL n0 a=true->RepT (Ai.shut K n0 w) a v
 | [],_,r,_=>by simpa only[RepT] using r
 | a::as,v,r,hb=>by simp only[RepT]at r |-;simp only[belowL,Ah]at hb;obtain⟨u,us,hv,h2,h3⟩:=r;exact⟨u,us,hv,Rep.shut a u h2 hb.1,RepT.shut as us h3 hb.2⟩
theorem RepLL.shut{K:Ghost}{n0:Nat}{w:World}:∀(a:List (List AV)) (v:List Value),RepLL K a v->(∀ r∈a,belowL n0 r=true)->RepLL (Ai.shut K n0 w) a v
 | [],_,r,_=>by simpa only[RepLL] using r
 | a::as,v,r,hb=>by simp only[RepLL]at r |-;obtain⟨u,us,hv,h2,h3⟩:=r;exact⟨u,us,hv,RepL.shut a u h2 (hb a Ag),RepLL.shut as us h3 (λr hr=>hb r (by simp[hr]))⟩
end
theorem RepM.shut{K:Ghost}{n0:Nat}{w:World}:∀{es:List (Jk×AV)} {l:List MapEntry},RepM K es l->(es.all λx=>Ai.below n0 x.2)=true->RepM (Ai.shut K n0 w) es l
 | [],_,h,_=>by simpa only[RepM] using h
 | x::es,l,h,hb=>by simp only[RepM]at h |-;simp only[B1,Ah]at hb;obtain⟨m,ms',h1,h2,h3,h4⟩:=h;exact⟨m,ms',h1,h2,Rep.shut _ _ h3 hb.1,RepM.shut h4 hb.2⟩
theorem Rel.shut{K:Ghost}{S:St}{w:World}{n0:Nat}(R:Rel K S w)(hI:VL n0 S):Rel (Ai.shut K n0 w) {S with heap:=S.heap.take n0} w:=by
 have hm:∀ n B,(Ai.shut K n0 w).m n=some B->n<n0/\K.m n=some B:=by
  intro n B h;simp only[Ai.shut]at h;split at h
  ·exact⟨Aa,h⟩
  ·cases h
 refine⟨?_,?_,?_,?_,?_,?_,?_⟩
 ·intro n B h;obtain⟨h1,h2⟩:=hm n B h;have:=R.dom n B h2;simp;omega
 ·intro n n' B h h';exact R.inj n n' B (hm n B h).2 (hm n' B h').2
 ·intro n B h;obtain⟨h1,h2⟩:=hm n B h;cases hg:(Ai.shut K n0 w).g B with
  | none=>rfl
  | some l=>
   exfalso;rcases Jcy hg with hg' |⟨_,n',_,_,hn',hm',_⟩
   ·rw[R.sep n B h2]at hg';cases hg'
   ·have:=R.inj n n' B h2 hm';omega
 ·intro n B cs h hb;obtain⟨h1,h2⟩:=hm n B h;simp only[Ci,if_pos h1]at hb;obtain⟨vs,t,hw,hr⟩:=R.cells n B cs h2 hb;exact⟨vs,t,hw,RepL.shut _ _ hr (hI n _ h1 hb)⟩
 ·intro n B es h hb;obtain⟨h1,h2⟩:=hm n B h;simp only[Ci,if_pos h1]at hb;obtain⟨ms,ck,hw,hr⟩:=R.maps n B es h2 hb;exact⟨ms,ck,hw,hr.shut (hI n _ h1 hb)⟩
 ·intro B l hg;rcases Jcy hg with hg' |⟨_,n',vs,t,_,_,hw,rfl⟩
  ·exact R.rows B l hg'
  ·exact⟨vs,t,hw,by rw[AB (Ao _)]⟩
 ·intro B b E sz size ha;obtain⟨l,hg,rest⟩:=R.grow B b E sz size ha;exact⟨l,Zt hg,rest⟩
theorem Step.shut{K K1:Ghost}{S S1:St}{w w1:World}(R0:Rel K S w)(_R:Rel K1 S1 w1)(h:Step K (λn=>n<S.heap.length) w K1 w1):Step K (λn=>n<S.heap.length) w (Ai.shut K1 S.heap.length w1) w1:=by
 refine⟨⟨λn B hm=>?_,λB l hg=>?_,λB b E sz size ha=>?_,h.ext.n⟩,h.os,h.tape,h.output,h.size,h.frame,λB hB h1 h2=>?_,λn hn hm=>?_,λB x hx=>h.born B x hx⟩
 ·simp only[Ai.shut,if_pos (R0.dom n B hm)];exact h.ext.m n B hm
 ·obtain⟨x,hx⟩:=h.ext.g B l hg;exact⟨x,Zt hx⟩
 ·obtain⟨E',ha',hle,hl⟩:=h.ext.a B b E sz size ha;refine⟨E',ha',hle,λl l' hg hg'=>?_⟩;obtain⟨x,hx⟩:=h.ext.g B l hg;rw[Zt hx]at hg';cases hg';exact hl l _ hg hx
 ·obtain⟨h3,h4⟩:=h.fresh B hB h1 h2;refine⟨λn hn=>?_,?_⟩
  ·simp only[Ai.shut]at hn;split at hn
   ·exact h3 n hn
   ·cases hn
  ·cases hg:(Ai.shut K1 S.heap.length w1).g B with
   | none=>rfl
   | some l=>
    exfalso;rcases Jcy hg with hg' |⟨_,n',_,_,_,hm',_⟩
    ·rw[h4]at hg';cases hg'
    ·exact h3 n' hm'
 ·simp only[Ai.shut,if_pos hn];exact h.back n hn hm
theorem Jgz{sz:Nat}:∀{n:Nat} {cs:List AV} {rows:List (List AV)},chunks sz n cs=some rows->rows.length=n/\(∀ r∈rows,r.length=sz)/\rows.flatten=cs.take (n*sz)/\n*sz<=cs.length/\∀ r∈rows,∀ x∈r,x∈cs
 | 0,cs,rows,h=>by simp only[chunks,V]at h;subst h;simp
 | n+1,cs,rows,h=>by
  simp only[chunks]at h;split at h
  ·rename_i hle;simp only[BN]at h;obtain⟨rs,hrs,rfl⟩:=h;obtain⟨h1,h2,h3,h4,h5⟩:=Jgz hrs;simp only[Ch]at h4;refine⟨by simp[h1],?_,?_,?_,?_⟩
   ·intro r hr;rcases AS.1 hr with rfl |hr
    ·simp;omega
    ·exact h2 r hr
   ·simp only[BF,h3];rw[Bs,CK,Nat.add_comm,List.take_add]
   ·rw[Bs];omega
   ·intro r hr x hx;rcases AS.1 hr with rfl |hr
    ·exact List.mem_of_mem_take hx
    ·exact CM (h5 r hr x hx)
  ·simp at h
theorem JgA:∀{cs:List AV},Kl cs=true->∀ x∈cs,J7 x=true
 | [],_,x,hx=>by cases hx
 | c::cs,h,x,hx=>by
  simp only[Kl,Ah]at h;rcases AS.1 hx with rfl |hx
  ·exact h.1
  ·exact JgA h.2 x hx
theorem Jiq:∀{cs:List AV},(∀ x∈cs,J7 x=true)->Kl cs=true
 | [],_=>rfl
 | c::cs,h=>by simp only[Kl,Ah];exact⟨h c Ag,Jiq (λx hx=>h x (by simp[hx]))⟩
theorem JeL(rows:List (List AV)):(rows.map Jh).flatten=Jh rows.flatten:=by
 induction rows with
 | nil=>rfl
 | cons r rs ih=>simp only[Ap,BF,ih,Jh,An]
theorem JgB{K:Ghost}{S:St}{w:World}{n0:Nat}{a:AV}{v:Value}(R:Rel K S w)(hr:Rep K a v)(hb:Ai.below n0 (Y3 n0 S.heap a)=true):Rep (Ai.shut K n0 w) (Y3 n0 S.heap a) v:=by
 cases a with
 | arr n off sz len=>
  simp only[Y3]at hb |-;split at hb
  ·rename_i hlt;rw[if_pos hlt];exact Rep.shut _ _ hr hb
  ·rename_i hge;rw[if_neg hge];split at hb
   ·rename_i cs hcs;split at hb
    ·rename_i rows hrows;split at hb
     ·rename_i hcl;simp only[if_pos hcl];simp only[Ah,decide_eq_true_eq]at hcl;simp only[Rep]at hr;obtain⟨B,cap,hm,hlc,rfl⟩:=hr;obtain⟨vs,t,hw,hrl⟩:=R.cells n B cs hm hcs;obtain⟨c1,c2,c3,c4,c5⟩:=Jgz hrows;have hcs':belowL n0 cs=true:=Q5 n0 cs hcl.1;have hg:=JoZ (R.sep n B hm) (by omega:n0<=n) hm hw;have hl:=hrl.length;simp only[Bu]at hl;simp only[Ch]at c4;simp only[Rep];refine⟨some ⟨B,off,none⟩,cap,by simp[c1],by simp[c1];exact hlc,?_,.inr ⟨B,off,(vs.toList.drop off).take (len*sz),rfl,⟨vs.toList,hg,?_⟩,?_,λx hx=>?_,trivial⟩⟩
      ·intro r hr';obtain⟨r0,hr0,rfl⟩:=Bw.1 hr';refine⟨by simp[Jh,c2 r0 hr0],?_⟩;rw[ZK];exact Jiq (λx hx=>JgA hcl.1 x (CM (c5 r0 hr0 x hx)))
      ·rw[A8,Ch,Bu]
       congr 1
       omega
      ·rw[RepLL.flat,JeL,c3];exact(((RepL.shut _ _ hrl hcs').drop off).take (len*sz)).canon
      ·obtain⟨b,E,sz1,size⟩:=x;obtain⟨l0,hg0,-⟩:=R.grow B b E sz1 size hx;rw[R.sep n B hm]at hg0;cases hg0
     ·exfalso;simp only[Ai.below,decide_eq_true_eq]at hb;omega
    ·exfalso;simp only[Ai.below,decide_eq_true_eq]at hb;omega
   ·exfalso;simp only[Ai.below,decide_eq_true_eq]at hb;omega
 | _=>exact Rep.shut _ _ hr hb
theorem JgC{K:Ghost}{S:St}{w:World}{n0:Nat}(R:Rel K S w):∀{as:List AV} {vs:List Value},RepT K as vs->belowL n0 (as.map (Y3 n0 S.heap))=true->RepT (Ai.shut K n0 w) (as.map (Y3 n0 S.heap)) vs
 | [],_,h,_=>by simp only[AC,RepT]at h |-;exact h
 | a::as,vs,h,hb=>by simp only[RepT]at h;obtain⟨v,vs',rfl,h1,h2⟩:=h;simp only[Ap,belowL,Ah]at hb;simp only[Ap,RepT];exact⟨v,vs',rfl,JgB R h1 hb.1,JgC R h2 hb.2⟩
theorem Jo0{K:Ghost}{S:St}{w:World}{n0:Nat}{a:AV}{v:Value}(R:Rel K S w)(hr:Rep K a v)(hb:Ai.below n0 (Jcl n0 S.heap a)=true):Rep (Ai.shut K n0 w) (Jcl n0 S.heap a) v:=by
 cases a with
 | tup as=>simp only[Jcl]at hb |-;simp only[Rep]at hr;obtain⟨vs,rfl,h⟩:=hr;simp only[Ai.below]at hb;simp only[Rep];exact⟨vs,rfl,JgC R h hb⟩
 | _=>exact JgB R hr hb
def JeM(P:Program):List RVar->List ResultVar->Bool
 | [],[]=>true
 | .tmp t::rs,.tmp t'::gs=>t == t' && JeM P rs gs
 | .cell t k::rs,.cell t' T::gs=>t == t' && Jco P T k && JeM P rs gs
 | _,_=>false
theorem JfF{K:Ghost}{S:St}{w:World}{e:KC}{tmps:Array Value}{F:ResultVar->Sem Value}(hF:∀ t,F (.tmp t)=pure (tmps.getD t Go.undef))(hF2:∀ a t,F (.cell a t)=do loadVar t (<- asAddr (tmps.getD a Go.undef)))(R:Rel K S w)(E:EnvRep K (Jj e) tmps):∀{rs:List RVar} {gs:List ResultVar} {vs:List AV},JeM P rs gs=true->QT rs e S.heap=some vs ->
  ∃ us,(gs.mapM F).run P w=.ok us w/\RepT K vs us
 | [],[],vs,_,h=>by simp only[QT,V]at h;subst h;exact⟨[],Ag,by simp[RepT]⟩
 | .tmp t::rs,.tmp t'::gs,vs,hb,h=>by
  simp only[JeM,Ah,beq_iff_eq]at hb;obtain⟨rfl,hb⟩:=hb;simp only[QT]at h;split at h
  ·rename_i v vs' hv hvs;simp only[V]at h;subst h;obtain⟨us,hu,hr⟩:=JfF hF hF2 R E hb hvs;refine⟨tmps.getD t Go.undef::us,?_,by simp only[RepT];exact⟨_,_,rfl,(E t v hv).2,hr⟩⟩;simp only[List.mapM_cons,A6,hF,Bg,AW,hu]
  ·simp at h
 | .cell t k::rs,.cell t' T::gs,vs,hb,h=>by
  simp only[JeM,Ah,beq_iff_eq]at hb;obtain⟨⟨rfl,hk⟩,hb⟩:=hb;simp only[QT]at h;split at h
  ·rename_i n off vs' hv hvs;split at h
   ·rename_i v hld;simp only[V]at h;subst h;obtain⟨us,hu,hr⟩:=JfF hF hF2 R E hb hvs;have hp:=(E t _ hv).2;obtain⟨v',hrun,hrep⟩:=JmJ (P:=P) R hk hp hld;simp only[Rep]at hp;obtain⟨B,hm,hpe⟩:=hp;rw[hpe]at hrun;simp only[Instr.loadAt,Instr.sureAddr,A6,Bg,AW]at hrun;refine⟨v'::us,?_,by simp only[RepT];exact⟨_,_,rfl,hrep,hr⟩⟩;have has:(asAddr (Value.pointer (some {block:=B,off:=off})):Sem Addr).run P w=.ok {block:=B,off:=off} w:=rfl;rw[List.mapM_cons];simp only[A6,hF2,hpe,has,Bg,AW,hrun];rw[hu];rfl
   ·simp at h
  ·simp at h
 | [],_::_,_,hb,_=>by simp[JeM]at hb
 | .tmp _::_,[],_,hb,_=>by simp[JeM]at hb
 | .cell _ _::_,[],_,hb,_=>by simp[JeM]at hb
 | .tmp _::_,.cell _ _::_,_,hb,_=>by simp[JeM]at hb
 | .cell _ _::_,.tmp _::_,_,hb,_=>by simp[JeM]at hb
theorem JaQ{K:Ghost}{S:St}{w:World}{e:KC}{tmps:Array Value}{g:Func}{rs:List RVar}{vs:List AV}(R:Rel K S w)(E:EnvRep K (Jj e) tmps)(hb:JeM P rs g.results.toList=true)(h:QT rs e S.heap=some vs) :
  ∃ u,(results g tmps).run P w=.ok u w/\Rep K (X2 vs) u:=by
 have hu':=JfF (P:=P) (F:=fun |.tmp t=>pure (tmps.getD t Go.undef) |.cell a t=>do loadVar t (<- asAddr (tmps.getD a Go.undef))) (λ_=>rfl) (λ_ _=>rfl) R E hb h;obtain⟨us,hu,hr⟩:=hu';have hl:=hr.length;refine⟨if h:us.toArray.size=1 then us.toArray[0] else .tuple us.toArray,?_,?_⟩
 ·unfold results;rw[Array.mapM_eq_mapM_toList];simp only[A6,Sem.run_map,Bg]
  erw [hu]
  rfl
 ·match vs,us,hr,hl with
  | [v],[u],hr,_=>simp only[RepT]at hr;obtain⟨_,_,he,h1,_⟩:=hr;cases he;simpa [X2] using h1
  | [],[],_,_=>simp[X2,Rep,RepT]
  | v1::v2::vs,u1::u2::us,hr,_=>have:¬ (u1::u2::us).toArray.size=1:=Ag;rw[dif_neg this];simp only[X2,Rep];exact⟨_,rfl,hr⟩
def JK(P:Program)(g:Func)(fn:IFn):Bool:=
 (match g.body with
 | some c=>Yn P g.ntmps fn.body c
 | none=>false) && g.name != "runtime.NumGoroutine" && JeM P fn.res g.results.toList
theorem Jir:∀(vs:List AV) (k t:Nat),Jj ((vs.zipIdx k).map λ(v,i)=>(i,v)) t=if k<=t then vs[t-k]? else none
 | [],k,t=>by simp[Jj]
 | v::vs,k,t=>by
  simp only[Cp,Ap,Jj];rw[Jir vs (k+1) t];by_cases h:k=t
  ·subst h;simp
  ·rw[if_neg h];by_cases h2:k<=t
   ·rw[if_pos h2,if_pos O];obtain⟨d,hd⟩:∃ d,t-k=d+1:=⟨t-k-1,O⟩
    rw[hd,show t-(k+1)=d by omega];rfl
   ·rw[if_neg h2,if_neg O]
theorem Jis{K:Ghost}{vs:List AV}{us:List Value}(h:RepT K vs us)(n:Nat):EnvRep K (Jj (Ys vs)) (us.toArray++Array.replicate (n-us.toArray.size) Go.undef):=by
 intro t v hv;unfold Ys at hv;rw[Jir]at hv;simp only[Dk,if_true,Nat.sub_zero]at hv;obtain⟨u,hu,hr⟩:=h.get t v hv;have hlt:=(Ac.1 hu).1;refine⟨AR,?_⟩;have:(us.toArray++Array.replicate (n-us.toArray.size) Go.undef).getD t Go.undef=u:=by rw[AX,DX (by simpa using hlt)];simp[hu]
 rw[this];exact hr
theorem JdZ{K K1:Ghost}{S S1:St}{w w1:World}{v:AV}{u:Value}(R0:Rel K S w)(hI:VL S.heap.length S)(R:Rel K1 S1 w1)(hst:Step K (λn=>n<S.heap.length) w K1 w1)(hkp:Keeps S.heap.length S S1)(hr:Rep K1 v u) :
  ∃ K',Rel K' (Y4 S.heap.length v S1).2 w1/\Step K (λn=>n<S.heap.length) w K' w1/\Keeps S.heap.length S (Y4 S.heap.length v S1).2/\Rep K' (Y4 S.heap.length v S1).1 u:=by
 have hI1:VL S.heap.length S1:=hkp.2.1 _ (Ao _) hI;have hlen:=hkp.1;have hkt:Keeps S.heap.length S {S1 with heap:=S1.heap.take S.heap.length}:=by
  have hin:∀ k,k<=S.heap.length->VL k S1->VL k {S1 with heap:=S1.heap.take S.heap.length}:=by
   intro k hk h n b hn hb;simp only[Ci]at hb;split at hb
   ·exact h n b hn hb
   ·cases hb
  refine⟨AR,λk hk h=>hin k hk (hkp.2.1 k hk h),λh=>?_⟩;have:(S1.heap.take S.heap.length).length=S.heap.length:=AR;simp only[this];exact hin _ (Ao _) hI1
 unfold Y4;split
 ·rename_i hb;exact⟨_,R.shut hI1,Step.shut R0 R hst,hkt,Rep.shut _ _ hr hb⟩
 ·split
  ·rename_i hb;exact⟨_,R.shut hI1,Step.shut R0 R hst,hkt,Jo0 R hr hb⟩
  ·exact⟨K1,R,hst,hkp,hr⟩
theorem Jkg{n f:Nat}{cl:Ky}{g:Func}{fn:IFn}{vs:List AV}{S:St}{r:Res}{S':St}(hcl:VF P cl)(hf:P.funcs[f]? = some g)(hc:JK P g fn=true)(hx:enter cl n fn vs S=some (r,S')){K:Ghost}{w:World}{us:List Value}
  (R:Rel K S w) (hI:VL S.heap.length S) (ha:RepT K vs us) :
  (callFunc f us.toArray).run P w=.ok (.enter f us.toArray) w/\Calls P f us.toArray w (Xw K S w r S'):=by
 simp only[JK,Ah,bne_iff_ne,ne_eq]at hc;obtain⟨⟨h1,h2⟩,h3⟩:=hc;split at h1
 ·rename_i c hb;refine⟨by simp[callFunc,hf,h2,hb],?_⟩;unfold enter at hx;split at hx
  ·rename_i hn;have hE:=Jis ha g.ntmps;have hsz:g.ntmps<=(us.toArray++Array.replicate (g.ntmps-us.toArray.size) Go.undef).size:=AR;refine calls_of_wp hf hb ?_;have key:∀(res:Ex×KC×St),Qr S.heap.length cl n fn.body (Ys vs) S=some res->(∀ a' w' K' en,Rel K' res.2.2 w'->(ZO res.1->EnvRep K' (Jj res.2.1) a'.tmps)->a'.defers=[]->Step K (λn=>n<S.heap.length) w K' w'->Keeps S.heap.length S res.2.2->Exr K' res.1 en->bodyPost P g (Xw K S w r S') en a' w') ->
     c.wp P (bodyPost P g (Xw K S w r S')) {tmps:=us.toArray++Array.replicate (g.ntmps-us.toArray.size) Go.undef,defers:=[]} w:=by
    intro res hex hpost;refine Jdx hcl fn.body c K S w {tmps:=us.toArray++Array.replicate (g.ntmps-us.toArray.size) Go.undef,defers:=[]} (Ys vs) res h1 R hI hE hsz (Ao _) hex _ ?_;intro a' w' K' en R' E' hdf _ hst hkp hexr;exact hpost a' w' K' en R' E' hdf hst hkp hexr
   have fin:∀(e:KC) (S1:St) (ex:Ex),ZO ex->Qr S.heap.length cl n fn.body (Ys vs) S=some (ex,e,S1)->(∀ en K',Exr K' ex en->en=.normal\/en=.ret) ->
     (∃ rs,QT fn.res e S1.heap=some rs/\r=.ret (Y4 S.heap.length (X2 rs) S1).1/\S'=(Y4 S.heap.length (X2 rs) S1).2)->c.wp P (bodyPost P g (Xw K S w r S')) {tmps:=us.toArray++Array.replicate (g.ntmps-us.toArray.size) Go.undef,defers:=[]} w:=by
    rintro e S1 ex hnp hex hen ⟨rs,hrs,rfl,rfl⟩;refine key _ hex ?_;intro a' w' K' en R' E' hdf hst hkp hexr;obtain⟨u,hu,hr⟩:=JaQ (P:=P) (g:=g) R' (E' hnp) h3 hrs;obtain⟨K2,R2,hst2,hkp2,hr2⟩:=JdZ R hI R' hst hkp hr;rcases hen en K' hexr with rfl |rfl
    ·exact⟨hdf,u,hu,K2,R2,hst2,hkp2,u,rfl,hr2⟩
    ·exact⟨hdf,u,hu,K2,R2,hst2,hkp2,u,rfl,hr2⟩
   split at hx
   ·rename_i e S1 hex;split at hx
    ·rename_i rs hrs;simp only[V,AP]at hx;refine fin e S1 _ (by simp[ZO]) hex (λen K' h=>?_) ⟨rs,hrs,hx.1.symm,hx.2.symm⟩;cases en <;> simp[Exr]at h
     exact .inl rfl
    ·simp at hx
   ·rename_i e S1 hex;split at hx
    ·rename_i rs hrs;simp only[V,AP]at hx;refine fin e S1 _ (by simp[ZO]) hex (λen K' h=>?_) ⟨rs,hrs,hx.1.symm,hx.2.symm⟩;cases en <;> simp[Exr]at h
     exact .inr rfl
    ·simp at hx
   ·rename_i v e S1 hex;split at hx
    ·rename_i hb';simp only[V,AP]at hx;obtain⟨rfl,rfl⟩:=hx;refine key _ hex ?_;intro a' w' K' en R' E' hdf hst hkp hexr;cases en <;> simp only[Exr]at hexr
     obtain⟨u,rfl,hr⟩:=hexr;have hl:=JdZ R hI R' hst hkp hr;unfold Y4 at hl;simp only[hb',if_true]at hl;obtain⟨K2,R2,hst2,hkp2,hr2⟩:=hl;exact⟨hdf,K2,R2,hst2,hkp2,u,rfl,hr2⟩
    ·simp at hx
   ·simp at hx
  ·simp at hx
 ·simp at h1
def ZL(P:Program)(f:Nat)(p:Ky->List AV->St->Option (Res×St)):Prop:=
 ∀ cl,VF P cl->∀ vs S r S',p cl vs S=some (r,S')->∀ K w us,Rel K S w->VL S.heap.length S->RepT K vs us ->
  ((callFunc f us.toArray).run P w=.ok (.enter f us.toArray) w/\Calls P f us.toArray w (Xw K S w r S')) \/
  ∃ u w',(callFunc f us.toArray).run P w=.ok (.value u) w'/\Xw K S w r S' (.returned u) w'
theorem Jdb{prims:Jz}{F:Nat->Option IFn}(hp:∀ f p,prims f=some p->ZL P f p)(hF:∀ f fn,prims f=none->F f=some fn->∃ g,P.funcs[f]? = some g/\JK P g fn=true):∀ n,VF P (QF prims F n)
 | 0=>λf vs S r S' h=>by simp[QF]at h
 | n+1=>by
  have ih:=Jdb hp hF n;intro f vs S r S' h K w us R hI ha;simp only[QF]at h;split at h
  ·rename_i p hpf;exact hp f p hpf _ ih vs S r S' h K w us R hI ha
  ·rename_i hpf;split at h
   ·rename_i fn hFf;obtain⟨g,hg,hc⟩:=hF f fn hpf hFf;exact .inl (Jkg ih hg hc h R hI ha)
   ·simp at h
def S0:St:={heap:=[],rows:=[]}
def K0:Ghost:={m:=λ_=>none,g:=λ_=>none,a:=λ_=>none}
theorem JST(w:World):Rel K0 S0 w:=
 ⟨λn B h=>by simp[K0]at h,λn n' B h=>by simp[K0]at h,λn B h=>by simp[K0]at h,λn B cs h=>by simp[K0]at h,λn B es h=>by simp[K0]at h,λB l h=>by simp[K0]at h,λB b E sz size h=>by simp[K0]at h⟩
theorem Jty{prims:Jz}{F:Nat->Option IFn}(hp:∀ f p,prims f=some p->ZL P f p)(hF:∀ f fn,prims f=none->F f=some fn->∃ g,P.funcs[f]? = some g/\JK P g fn=true)
  {n f:Nat} {vs:List AV} {us:List Value} {b:Bool} {S':St} (hnp:prims f=none) (hx:QF prims F (n+1) f vs S0=some (.ret (.bool b),S')) (ha:RepT K0 vs us) (w:World) :
  Calls P f us.toArray w λe w'=>e=.returned (.bool b)/\RowKit.Below w.heap.size w w':=by
 simp only[QF,hnp]at hx;split at hx
 ·rename_i fn hFf;obtain⟨g,hg,hc⟩:=hF f fn hnp hFf;refine Calls.mono (Jkg (Jdb hp hF n) hg hc hx (JST w) (λn b hn _=>by simp[S0]at hn) ha).2 ?_;rintro e w' ⟨K',R',hst,_,u,rfl,hr⟩;simp only[Rep]at hr;subst hr;exact⟨rfl,hst.os,hst.tape,hst.output,hst.size,λk hk=>hst.frame k hk (λn h=>by simp[K0]at h) rfl⟩
 ·simp at hx
def Le{α:Type}(x y:Option α):Prop:=∀ a,x=some a->y=some a
def CLe(c c':Ky):Prop:=∀ f vs S,Le (c f vs S) (c' f vs S)
def JeN(p:Ky->List AV->St->Option (Res×St)):Prop:=∀ c c',CLe c c'->∀ vs S,Le (p c vs S) (p c' vs S)
def Yy(pr:Jz):Prop:=∀ f p,pr f=some p->JeN p
theorem Le.rfl{α:Type}{x:Option α}:Le x x:=λ_ h=>h
theorem CLe.rfl{c:Ky}:CLe c c:=λ_ _ _=>Le.rfl
variable {b0:Nat}
theorem Jsf{c c':Ky}(h:CLe c c')(o:LOp)(e:V8)(S:St):Le (XN b0 c o e S) (XN b0 c' o e S):=by
 intro a ha;cases o with
 | call f args=>
  simp only[XN]at ha |-;split at ha
  ·exact h _ _ _ _ ha
  ·simp at ha
 | _=>exact ha
theorem Jkh{c c':Ky}(h:CLe c c')(base:Nat)(it:Item)(e:KC)(S:St):Le (YR b0 c base it e S) (YR b0 c' base it e S):=by
 intro a ha;unfold YR at ha |-;cases hw:wanted it.guard (Jj e)with
 | none=>rw[hw]at ha;simp at ha
 | some b=>
  rw[hw]at ha;cases b with
  | false=>exact ha
  | true=>
   simp only at ha |-;cases ho:it.op with
   | q o=>rw[ho]at ha;exact ha
   | l o re=>
    rw[ho]at ha;simp only at ha |-;cases hl:XN b0 c o (Jj e) S with
    | none=>rw[hl]at ha;simp at ha
    | some x=>rw[Jsf h o _ _ _ hl];rw[hl]at ha;exact ha
theorem Jit{c c':Ky}(h:CLe c c')(base:Nat):∀(items prev:List Item) (e:KC) (S:St),Le (run b0 c base prev items e S) (run b0 c' base prev items e S)
 | [],_,_,_=>Le.rfl
 | it::rest,prev,e,S=>by
  intro a ha;simp only[run]at ha |-;cases hs:YR b0 c base it e S with
  | none=>rw[hs]at ha;simp at ha
  | some x=>
   rw[Jkh h base it e S _ hs];rw[hs]at ha;obtain⟨o,e',S'⟩:=x;cases o with
   | some v=>exact ha
   | none=>
    simp only at ha |-;split at ha
    ·rename_i hr;rw[if_pos hr];exact Jit h base rest _ _ _ _ ha
    ·simp at ha
theorem Jdc{f f':KC->St->Option (Ex×KC×St)}(h:∀ e S,Le (f e S) (f' e S))(kp:List Nat):∀{n n':Nat},n<=n'->∀ e S,Le (JdU f kp n e S) (JdU f' kp n' e S)
 | 0,_,_,_,_=>λa ha=>by simp[JdU]at ha
 | n+1,0,hn,_,_=>O
 | n+1,n'+1,hn,e,S=>by
  intro a ha;simp only[JdU]at ha |-;cases hf:f (keep kp e) S with
  | none=>rw[hf]at ha;simp at ha
  | some x=>
   rw[h _ _ _ hf];rw[hf]at ha;obtain⟨ex,e',S'⟩:=x;cases ex with
   | normal=>exact Jdc h kp O e' S' a ha
   | _=>exact ha
theorem Q6{c c':Ky}(h:CLe c c'){n n':Nat}(hn:n<=n'):∀(C:IC) (e:KC) (S:St),Le (Qr b0 c n C e S) (Qr b0 c' n' C e S)
 | .skip,_,_=>Le.rfl
 | .exit _,_,_=>Le.rfl
 | .ret,_,_=>Le.rfl
 | .stuck,_,_=>Le.rfl
 | .region al items kp,e,S=>by
  intro a ha;simp only[Qr]at ha |-;cases hr:run b0 c S.heap.length [] items e {S with heap:=S.heap++al.map .cells} with
  | none=>rw[hr]at ha;simp at ha
  | some x=>rw[Jit h _ _ _ _ _ _ hr];rw[hr]at ha;exact ha
 | .seq x y,e,S=>by
  intro a ha;simp only[Qr]at ha |-;cases hr:Qr b0 c n x e S with
  | none=>rw[hr]at ha;simp at ha
  | some r=>
   rw[Q6 h hn x e S _ hr];rw[hr]at ha;obtain⟨ex,e',S'⟩:=r;cases ex with
   | normal=>exact Q6 h hn y e' S' a ha
   | _=>exact ha
 | .cond o x y,e,S=>by
  intro a ha;simp only[Qr]at ha |-;split at ha
  ·exact Q6 h hn x e S a ha
  ·exact Q6 h hn y e S a ha
  ·simp at ha
 | .block id x,e,S=>by
  intro a ha;simp only[Qr]at ha |-;cases hr:Qr b0 c n x e S with
  | none=>rw[hr]at ha;simp at ha
  | some r=>rw[Q6 h hn x e S _ hr];rw[hr]at ha;exact ha
 | .loop kp x,e,S=>by intro a ha;simp only[Qr]at ha |-;exact Jdc (λe S=>Q6 h hn x e S) kp hn e S a ha
theorem Jiu{c c':Ky}(h:CLe c c'){n n':Nat}(hn:n<=n')(fn:IFn)(vs:List AV)(S:St):Le (enter c n fn vs S) (enter c' n' fn vs S):=by
 intro a ha;unfold enter at ha |-;split at ha
 ·rename_i hl;rw[if_pos hl];cases hr:Qr S.heap.length c n fn.body (Ys vs) S with
  | none=>rw[hr]at ha;simp at ha
  | some r=>rw[Q6 h hn _ _ _ _ hr];rw[hr]at ha;exact ha
 ·simp at ha
theorem Jiv{pr:Jz}{F:Nat->Option IFn}(hp:Yy pr):∀ n,CLe (QF pr F n) (QF pr F (n+1))
 | 0=>λf vs S a h=>by simp[QF]at h
 | n+1=>by
  intro f vs S a h;have ih:=Jiv (F:=F) hp n;rw[QF]at h |-;dsimp only at h |-;split at h
  ·rename_i p hpf;exact hp f p hpf _ _ ih vs S a h
  ·rename_i hpf;split at h
   ·rename_i fn hFf;exact Jiu ih O fn vs S a h
   ·simp at h
theorem Q0{pr:Jz}{F:Nat->Option IFn}(hp:Yy pr){n m:Nat}(h:n<=m):CLe (QF pr F n) (QF pr F m):=by
 induction m with
 | zero=>obtain rfl:n=0:=by omega
         exact CLe.rfl
 | succ m ih=>
  by_cases hn:n=m+1
  ·subst hn;exact CLe.rfl
  ·intro f vs S a ha;exact Jiv hp m f vs S a (ih O f vs S a ha)
variable (pr:Jz) (F:Nat->Option IFn)
def Wp(f:Nat)(vs:List AV)(S:St)(Q:Res->St->Prop):Prop:=∃ n r S',QF pr F n f vs S=some (r,S')/\Q r S'
def Wx(b0:Nat)(C:IC)(e:KC)(S:St)(Q:Ex->KC->St->Prop):Prop:=∃ n x e' S',Qr b0 (QF pr F n) n C e S=some (x,e',S')/\Q x e' S'
def Wi(b0 base:Nat)(prev items:List Item)(e:KC)(S:St)(Q:Option AV->KC->St->Prop):Prop:=∃ n x e' S',run b0 (QF pr F n) base prev items e S=some (x,e',S')/\Q x e' S'
variable {pr F}
theorem Wp.mono{f:Nat}{vs:List AV}{S:St}{Q Q':Res->St->Prop}(h:Wp pr F f vs S Q)(hq:∀ r S',Q r S'->Q' r S'):Wp pr F f vs S Q':=by obtain⟨n,r,S',h1,h2⟩:=h;exact⟨n,r,S',h1,hq _ _ h2⟩
theorem Wx.mono{C:IC}{e:KC}{S:St}{Q Q':Ex->KC->St->Prop}(h:Wx pr F b0 C e S Q)(hq:∀ x e' S',Q x e' S'->Q' x e' S'):Wx pr F b0 C e S Q':=by obtain⟨n,x,e',S',h1,h2⟩:=h;exact⟨n,x,e',S',h1,hq _ _ _ h2⟩
def ifB(o:Option AV)(T E:Prop):Prop:=
 match o with
 | some (.bool b)=>(b=true->T)/\(b=false->E)
 | _=>False
def ifW(g:Option (Nat×Bool))(e:V8)(T E:Prop):Prop:=
 match g with
 | none=>T
 | some (s,want)=>match e s with
  | some (.bool b)=>(b=want->T)/\(b≠want->E)
  | some .undef=>E
  | _=>False
theorem Jtz{g:Option (Nat×Bool)}{e:V8}{T E:Prop}(h:ifW g e T E):(wanted g e=some true/\T)\/(wanted g e=some false/\E):=by
 unfold ifW at h;unfold wanted;cases g with
 | none=>exact .inl ⟨rfl,h⟩
 | some x=>
  obtain⟨s,want⟩:=x;simp only at h |-;split at h
  ·rename_i b hb;rw[hb];by_cases hbw:b=want
   ·exact .inl ⟨by simp[hbw],h.1 hbw⟩
   ·exact .inr ⟨by simp[hbw],h.2 hbw⟩
  ·rename_i hb;rw[hb];exact .inr ⟨rfl,h⟩
  ·exact h.elim
variable (pr F)
def wl(b0:Nat)(o:LOp)(e:V8)(S:St)(Q:Res->St->Prop):Prop:=
 match o with
 | .call f args=>match f.val e,X9 args e with
  | some (.func g first cap),some vs=>Wp pr F g (first++vs++cap) S Q
  | _,_=>False
 | o=>match XN b0 (λ_ _ _=>none) o e S with
  | some (r,S')=>Q r S'
  | none=>False
def wi(b0 base:Nat):List Item->List Item->KC->St->(Option AV->KC->St->Prop)->Prop
 | _,[],e,S,Q=>Q none e S
 | prev,it::rest,e,S,Q=>ifW it.guard (Jj e)
  (match it.op with
  | .q o=>match QY o (Jj e) S.heap base with
   | some v=>wi b0 base (it::prev) rest (KD e it.dst v) S Q
   | none=>False
  | .l o re=>wl pr F b0 o (Jj e) S λr S'=>match r with
   | .ret v=>J8 prev re (KD e it.dst v) S'.heap base=true/\wi b0 base (it::prev) rest (KD e it.dst v) S' Q
   | .panic v=>Q (some v) e S')
  (match it.op with
  | .q _=>wi b0 base (it::prev) rest (KD e it.dst .undef) S Q
  | .l _ re=>J8 prev re (KD e it.dst .undef) S.heap base=true/\wi b0 base (it::prev) rest (KD e it.dst .undef) S Q)
variable {pr F}
theorem JwR{o:LOp}{e:V8}{S:St}{Q:Res->St->Prop}(h:wl pr F b0 o e S Q):∃ n r S',XN b0 (QF pr F n) o e S=some (r,S')/\Q r S':=by
 cases o with
 | call f args=>
  simp only[wl]at h;split at h
  ·rename_i g first cap vs hf hv
   obtain⟨n,r,S',h1,h2⟩:=h;exact⟨n,r,S',by simp only[XN,hf,hv,h1],h2⟩
  ·exact h.elim
 | _=>
  simp only[wl]at h;split at h
  ·rename_i r S' hr;exact⟨0,r,S',by rw[<- hr];rfl,h⟩
  ·exact h.elim
theorem Jqo(hp:Yy pr){base:Nat}:∀{items prev:List Item} {e:KC} {S:St} {Q:Option AV->KC->St->Prop},wi pr F b0 base prev items e S Q->Wi pr F b0 base prev items e S Q
 | [],prev,e,S,Q,h=>⟨0,none,e,S,rfl,h⟩
 | it::rest,prev,e,S,Q,h=>by
  simp only[wi]at h;have fin:∀(n:Nat) (v:AV) (S':St),YR b0 (QF pr F n) base it e S=some (none,KD e it.dst v,S')->J8 prev (Jto it.op) (KD e it.dst v) S'.heap base=true->wi pr F b0 base (it::prev) rest (KD e it.dst v) S' Q->Wi pr F b0 base prev (it::rest) e S Q:=by intro n v S' hs hr h;obtain⟨m,x,e',S2,h1,h2⟩:=Jqo hp h;refine⟨max n m,x,e',S2,?_,h2⟩;simp only[run];rw[Jkh (Q0 hp (B5 n m)) _ _ _ _ _ hs];simp only[hr,if_true];exact Jit (Q0 hp (B7 n m)) _ _ _ _ _ _ h1
  rcases Jtz h with⟨hw,h⟩ |⟨hw,h⟩
  ·split at h
   ·rename_i o ho;split at h
    ·rename_i v hv;exact fin 0 v S (by simp only[YR,hw,ho,hv]) (by rw[ho];exact J5 _ _ _) h
    ·exact h.elim
   ·rename_i o re ho;obtain⟨n,r,S',h1,h2⟩:=JwR h;cases r with
    | ret v=>simp only at h2;exact fin n v S' (by simp only[YR,hw,ho,h1]) (by rw[ho];exact h2.1) h2.2
    | panic v=>simp only at h2;exact⟨n,some v,e,S',by simp only[run,YR,hw,ho,h1],h2⟩
  ·split at h
   ·rename_i o ho;exact fin 0 .undef S (by simp only[YR,hw]) (by rw[ho];exact J5 _ _ _) h
   ·rename_i o re ho;exact fin 0 .undef S (by simp only[YR,hw]) (by rw[ho];exact h.1) h.2
theorem Wx.skip{e:KC}{S:St}{Q:Ex->KC->St->Prop}(h:Q .normal e S):Wx pr F b0 .skip e S Q:=⟨0,_,_,_,rfl,h⟩
theorem Wx.exit{id:Nat}{e:KC}{S:St}{Q:Ex->KC->St->Prop}(h:Q (.exit id) e S):Wx pr F b0 (.exit id) e S Q:=⟨0,_,_,_,rfl,h⟩
theorem Wx.ret{e:KC}{S:St}{Q:Ex->KC->St->Prop}(h:Q .ret e S):Wx pr F b0 .ret e S Q:=⟨0,_,_,_,rfl,h⟩
theorem Wx.region(hp:Yy pr){al:List (List AV)}{items:List Item}{kp:List Nat}{e:KC}{S:St}{Q:Ex->KC->St->Prop}
  (h:wi pr F b0 S.heap.length [] items e {S with heap:=S.heap++al.map .cells} λx e' S'=>match x with |none=>Q .normal (keep kp e') S' |some v=>Q (.panic v) e' S'):Wx pr F b0 (.region al items kp) e S Q:=by
 obtain⟨n,x,e',S',h1,h2⟩:=Jqo hp h;cases x with
 | none=>exact⟨n,_,_,_,by simp only[Qr,h1],h2⟩
 | some v=>exact⟨n,_,_,_,by simp only[Qr,h1],h2⟩
theorem Wx.seq(hp:Yy pr){a b:IC}{e:KC}{S:St}{Q:Ex->KC->St->Prop}(h:Wx pr F b0 a e S λx e' S'=>match x with |.normal=>Wx pr F b0 b e' S' Q |x=>Q x e' S'):Wx pr F b0 (.seq a b) e S Q:=by
 obtain⟨n,x,e',S',h1,h2⟩:=h;cases x with
 | normal=>obtain⟨m,y,e2,S2,h3,h4⟩:=h2;refine⟨max n m,y,e2,S2,?_,h4⟩;simp only[Qr];rw[Q6 (Q0 hp (B5 n m)) (B5 n m) _ _ _ _ h1];exact Q6 (Q0 hp (B7 n m)) (B7 n m) _ _ _ _ h3
 | _=>exact⟨n,_,_,_,by simp only[Qr,h1],h2⟩
theorem Wx.cond{c:Opd}{a b:IC}{e:KC}{S:St}{Q:Ex->KC->St->Prop}(h:ifB (c.val (Jj e)) (Wx pr F b0 a e S Q) (Wx pr F b0 b e S Q)):Wx pr F b0 (.cond c a b) e S Q:=by
 unfold ifB at h;split at h
 ·rename_i v hv;cases v with
  | true=>obtain⟨n,x,e',S',h1,h2⟩:=h.1 rfl;exact⟨n,x,e',S',by simp only[Qr,hv,h1],h2⟩
  | false=>obtain⟨n,x,e',S',h1,h2⟩:=h.2 rfl;exact⟨n,x,e',S',by simp only[Qr,hv,h1],h2⟩
 ·exact h.elim
theorem Wx.block{id:Nat}{a:IC}{e:KC}{S:St}{Q:Ex->KC->St->Prop}(h:Wx pr F b0 a e S λx e' S'=>match x with |.exit id'=>if id'=id then Q .normal e' S' else Q (.exit id') e' S' |x=>Q x e' S'):Wx pr F b0 (.block id a) e S Q:=by
 obtain⟨n,x,e',S',h1,h2⟩:=h;cases x with
 | exit id'=>
  simp only at h2;split at h2
  ·rename_i hid;exact⟨n,_,_,_,by simp only[Qr,h1];rw[if_pos hid],h2⟩
  ·rename_i hid;exact⟨n,_,_,_,by simp only[Qr,h1];rw[if_neg hid],h2⟩
 | _=>exact⟨n,_,_,_,by simp only[Qr,h1],h2⟩
theorem Wx.loop(hp:Yy pr){kp:List Nat}{b:IC}{Q:Ex->KC->St->Prop}(I:Nat->KC->St->Prop)
  (hb:∀ m e S,I m e S->Wx pr F b0 b (keep kp e) S λx e' S'=>match x with |.normal=>∃ m',m'<m/\I m' e' S' |x=>Q x e' S') {m:Nat} {e:KC} {S:St} (h:I m e S):Wx pr F b0 (.loop kp b) e S Q:=by
 have key:∀ m e S,I m e S->∃ n k x e' S',JdU (Qr b0 (QF pr F n) n b) kp k e S=some (x,e',S')/\Q x e' S':=by
  intro m;induction m using Nat.strongRecOn with
  | _ m ih=>
   intro e S h;obtain⟨n,x,e',S',h1,h2⟩:=hb m e S h;cases x with
   | normal=>obtain⟨m',hm,h'⟩:=h2;obtain⟨n2,k,y,e2,S2,h3,h4⟩:=ih m' hm e' S' h';refine⟨max n n2,k+1,y,e2,S2,?_,h4⟩;simp only[JdU];rw[Q6 (Q0 hp (B5 n n2)) (B5 n n2) _ _ _ _ h1];exact Jdc (λe S=>Q6 (Q0 hp (B7 n n2)) (B7 n n2) b e S) kp (Ao _) _ _ _ h3
   | _=>exact⟨n,1,_,_,_,by simp only[JdU,h1],h2⟩
 obtain⟨n,k,x,e',S',h1,h2⟩:=key m e S h;refine⟨max n k,x,e',S',?_,h2⟩;simp only[Qr];exact Jdc (λe S=>Q6 (Q0 hp (B5 n k)) (B5 n k) b e S) kp (B7 n k) _ _ _ h1
variable (pr F)
def wx(b0:Nat):IC->KC->St->(Ex->KC->St->Prop)->Prop
 | .skip,e,S,Q=>Q .normal e S
 | .region al items kp,e,S,Q=>wi pr F b0 S.heap.length [] items e {S with heap:=S.heap++al.map .cells} λx e' S'=>match x with |none=>Q .normal (keep kp e') S' |some v=>Q (.panic v) e' S'
 | .seq a b,e,S,Q=>wx b0 a e S λx e' S'=>match x with |.normal=>wx b0 b e' S' Q |x=>Q x e' S'
 | .cond c a b,e,S,Q=>ifB (c.val (Jj e)) (wx b0 a e S Q) (wx b0 b e S Q)
 | .block id a,e,S,Q=>wx b0 a e S λx e' S'=>match x with |.exit id'=>if id'=id then Q .normal e' S' else Q (.exit id') e' S' |x=>Q x e' S'
 | .loop kp b,e,S,Q=>Wx pr F b0 (.loop kp b) e S Q
 | .exit id,e,S,Q=>Q (.exit id) e S
 | .ret,e,S,Q=>Q .ret e S
 | .stuck,_,_,_=>False
variable {pr F}
theorem Jdd(hp:Yy pr):∀{C:IC} {e:KC} {S:St} {Q:Ex->KC->St->Prop},wx pr F b0 C e S Q->Wx pr F b0 C e S Q
 | .skip,_,_,_,h=>Wx.skip h
 | .region ..,_,_,_,h=>Wx.region hp h
 | .seq a b,e,S,Q,h=>by
  simp only[wx]at h;have h2:Wx pr F b0 a e S λx e' S'=>match x with |.normal=>wx pr F b0 b e' S' Q |x=>Q x e' S':=Jdd hp h
  refine Wx.seq hp (h2.mono ?_);intro x e' S' h;cases x with
  | normal=>exact Jdd hp h
  | _=>exact h
 | .cond c a b,_,_,_,h=>Wx.cond (by
   simp only[wx]at h;unfold ifB at h |-;split at h
   ·rename_i v hv;exact⟨λhb=>Jdd hp (h.1 hb),λhb=>Jdd hp (h.2 hb)⟩
   ·exact h.elim)
 | .block id a,_,_,_,h=>Wx.block (Jdd hp h)
 | .loop ..,_,_,_,h=>h
 | .exit _,_,_,_,h=>Wx.exit h
 | .ret,_,_,_,h=>Wx.ret h
 | .stuck,_,_,_,h=>h.elim
def fin(res:List RVar)(n0:Nat)(Q:Res->St->Prop)(x:Ex)(e:KC)(S':St):Prop:=
 match x with
 | .normal |.ret=>match QT res e S'.heap with
  | some rs=>Q (.ret (Y4 n0 (X2 rs) S').1) (Y4 n0 (X2 rs) S').2
  | none=>False
 | .panic v=>Ai.below n0 v=true/\Q (.panic v) {S' with heap:=S'.heap.take n0}
 | _=>False
theorem Wp.of(hp:Yy pr){f:Nat}{fn:IFn}{vs:List AV}{S:St}{Q:Res->St->Prop}(h1:pr f=none)(h2:F f=some fn)(h3:vs.length=fn.nargs)(h:wx pr F S.heap.length fn.body (Ys vs) S (fin fn.res S.heap.length Q)):Wp pr F f vs S Q:=by
 obtain⟨n,x,e',S',h4,h5⟩:=Jdd hp h;unfold fin at h5;split at h5
 ·split at h5
  ·rename_i rs hrs;exact⟨n+1,_,_,by simp only[QF,h1,h2,enter,h3,if_true,h4,hrs],h5⟩
  ·exact h5.elim
 ·split at h5
  ·rename_i rs hrs;exact⟨n+1,_,_,by simp only[QF,h1,h2,enter,h3,if_true,h4,hrs],h5⟩
  ·exact h5.elim
 ·exact⟨n+1,_,_,by simp only[QF,h1,h2,enter,h3,if_true,h4,h5.1],h5.2⟩
 ·exact h5.elim
def Det(pr:Jz)(F:Nat->Option IFn)(f:Nat)(vs:List AV)(S:St)(r:Res)(S':St):Prop:=∀ Q,Wp pr F f vs S Q↔Q r S'
theorem Wp.det(hp:Yy pr){f:Nat}{vs:List AV}{S:St}{Q:Res->St->Prop}(h:Wp pr F f vs S Q):∃ r S',Det pr F f vs S r S'/\Q r S':=by obtain⟨n,r,S',h1,h2⟩:=h;refine⟨r,S',λQ'=>⟨?_,λh=>⟨n,r,S',h1,h⟩⟩,h2⟩;rintro⟨m,r2,S2,h3,h4⟩;have e1:=Q0 hp (B5 n m) _ _ _ _ h1;have e2:=Q0 hp (B7 n m) _ _ _ _ h3;rw[e1]at e2;cases e2;exact h4
theorem Det.of(hp:Yy pr){f:Nat}{vs:List AV}{S:St}{r:Res}{S':St}(h:Wp pr F f vs S λr' S''=>r'=r/\S''=S'):Det pr F f vs S r S':=by obtain⟨r',S'',h1,rfl,rfl⟩:=h.det hp;exact h1
def hp(H:List Blk)(n:Nat)(b:Blk)(L:List Blk):List Blk:=(H++L).set n b
variable {H:List Blk} {n:Nat} {b b':Blk} {L M:List Blk}
theorem Xi(h:H[n]? = some b):H=hp H n b []:=by
 unfold hp;rw[Ar];have hn:=(Ac.1 h)
 obtain⟨h1,h2⟩:=hn;apply Cm;intro i;by_cases hi:i=n
 ·subst hi;rw[h,A3 h1]
 ·rw[Bf O]
theorem CO{Q:Prop}(h:Q:=by simp[hp]):Q:=h
theorem XO:(hp H n b L).length=H.length+L.length:=CO
theorem Kh(hn:n<H.length):(hp H n b L)[n]? = some b:=by unfold hp;rw[A3 AR]
theorem Vq(hn:n<H.length)(k:Nat):(hp H n b L)[H.length+k]? = L[k]?:=by
 unfold hp;rw[Bf O,B9 O]
 congr 1
 omega
theorem Z0:(hp H n b L).set n b'=hp H n b' L:=CO
theorem YS(hn:n<H.length)(k:Nat):(hp H n b L).set (H.length+k) b'=hp H n b (L.set k b'):=by
 unfold hp;rw[List.set_comm _ _ (by omega:n≠H.length+k)]
 congr 1
 rw[Di _ _ O]
 congr 2
 omega
theorem Jau(hn:n<H.length):hp H n b L++M=hp H n b (L++M):=by unfold hp;rw[<- BG,<- CL _ _ (by rw[AG];omega)]
theorem JR(_hn:n<H.length):(hp H n b L).take H.length=hp H n b []:=by unfold hp;rw[Ar,Dt,CV]
theorem Jo1:hp H n b []=H.set n b:=CO
theorem JbE{x:Int}(h1:-9223372036854775808<=x)(h2:x<9223372036854775808):IntKind.i64.wrap x=x:=by simp only[IntKind.wrap,IntKind.bits,IntKind.signed];simp;omega
inductive Fr where
 | code (c:IC) |blk (id:Nat)
variable (pr:Jz) (F:Nat->Option IFn)
def Jca(b0:Nat)(Q:Ex->KC->St->Prop):List Fr->Ex->KC->St->Prop
 | [],x,e,S=>Q x e S
 | .code c::k,.normal,e,S=>Wx pr F b0 c e S (Jca b0 Q k)
 | .code _::k,x,e,S=>Jca b0 Q k x e S
 | .blk id::k,.exit id',e,S=>if id'=id then Jca b0 Q k .normal e S else Jca b0 Q k (.exit id') e S
 | .blk _::k,x,e,S=>Jca b0 Q k x e S
structure Back(b0:Nat)(Q:Ex->KC->St->Prop)(k:List Fr)(x:Ex)(e:KC)(S:St):Prop where
 h:Jca pr F b0 Q k x e S
structure At(b0:Nat)(Q:Ex->KC->St->Prop)(c:IC)(k:List Fr)(e:KC)(S:St):Prop where
 h:Wx pr F b0 c e S (Jca pr F b0 Q k)
structure In(b0:Nat)(Q:Ex->KC->St->Prop)(base:Nat)(prev items:List Item)(kp:List Nat)(k:List Fr)(e:KC)(S:St):Prop where
 h:wi pr F b0 base prev items e S λx e' S'=>match x with |none=>Jca pr F b0 Q k .normal (keep kp e') S' |some v=>Jca pr F b0 Q k (.panic v) e' S'
variable {pr F}
variable {b0 base:Nat} {Q:Ex->KC->St->Prop} {k:List Fr} {e:KC} {S:St}
theorem Jt(_hp:Yy pr){f:Nat}{na:Nat}{c:IC}{res:List RVar}{vs:List AV}{S:St}{Q:Res->St->Prop}(h1:pr f=none)(h2:F f=some ⟨na,c,res⟩)(h3:vs.length=na)(h:At pr F S.heap.length (fin res S.heap.length Q) c [] (Ys vs) S):Wp pr F f vs S Q:=by
 obtain⟨n,x,e',S',h4,h5⟩:=h;simp only[Jca]at h5;unfold fin at h5;split at h5
 ·split at h5
  ·rename_i rs hrs;exact⟨n+1,_,_,by simp only[QF,h1,h2,enter,h3,if_true,h4,hrs],h5⟩
  ·exact h5.elim
 ·split at h5
  ·rename_i rs hrs;exact⟨n+1,_,_,by simp only[QF,h1,h2,enter,h3,if_true,h4,hrs],h5⟩
  ·exact h5.elim
 ·exact⟨n+1,_,_,by simp only[QF,h1,h2,enter,h3,if_true,h4,h5.1],h5.2⟩
 ·exact h5.elim
theorem Kt(hp:Yy pr){a b:IC}(h:At pr F b0 Q a (.code b::k) e S):At pr F b0 Q (.seq a b) k e S:=by refine⟨Wx.seq hp (Wx.mono h.h ?_)⟩;intro x e' S' h;cases x <;> exact h
theorem JeO(h:Back pr F b0 Q k .normal e S):At pr F b0 Q .skip k e S:=⟨Wx.skip h.h⟩
theorem JeP{id:Nat}(h:Back pr F b0 Q k (.exit id) e S):At pr F b0 Q (.exit id) k e S:=⟨Wx.exit h.h⟩
theorem Jiw(h:Back pr F b0 Q k .ret e S):At pr F b0 Q .ret k e S:=⟨Wx.ret h.h⟩
theorem Jcz{id:Nat}{a:IC}(h:At pr F b0 Q a (.blk id::k) e S):At pr F b0 Q (.block id a) k e S:=by refine⟨Wx.block (Wx.mono h.h ?_)⟩;intro x e' S' h;cases x <;> exact h
theorem Jde{c:Opd}{a b:IC}(hc:c.val (Jj e)=some (.bool true))(h:At pr F b0 Q a k e S):At pr F b0 Q (.cond c a b) k e S:=
 ⟨Wx.cond (by rw[hc];exact⟨λ_=>h.h,λh=>by cases h⟩)⟩
theorem Jbe{c:Opd}{a b:IC}(hc:c.val (Jj e)=some (.bool false))(h:At pr F b0 Q b k e S):At pr F b0 Q (.cond c a b) k e S:=
 ⟨Wx.cond (by rw[hc];exact⟨λh=>(by cases h),λ_=>h.h⟩)⟩
theorem JwS{c:Opd}{a b:IC}{v:Bool}(hc:c.val (Jj e)=some (.bool v))(h:v=true->At pr F b0 Q a k e S)(h':v=false->At pr F b0 Q b k e S):At pr F b0 Q (.cond c a b) k e S:=
 ⟨Wx.cond (by rw[hc];exact⟨λe=>(h e).h,λe=>(h' e).h⟩)⟩
theorem Xe(hp:Yy pr){al:List (List AV)}{items:List Item}{kp:List Nat}{H0 H:List Blk}{rw:List Nat}{base:Nat}(hH:H0++al.map .cells=H)(hb:H0.length=base)(h:In pr F b0 Q base [] items kp k e ⟨H,rw⟩):At pr F b0 Q (.region al items kp) k e ⟨H0,rw⟩:=by subst hH hb;exact⟨Wx.region hp h.h⟩
theorem JB(hp:Yy pr){kp:List Nat}{b:IC}(I:Nat->KC->St->Prop)
  (hb:∀ m e S,I m e S->At pr F b0 (λx e' S'=>match x with |.normal=>∃ m',m'<m/\I m' (keep kp e') S' |x=>Back pr F b0 Q k x e' S') b [] e S) {m:Nat} (h:I m (keep kp e) S):At pr F b0 Q (.loop kp b) k e S:=by
 refine⟨Wx.loop hp (λm e S=>I m (keep kp e) S) (λm e S hi=>Wx.mono (hb m (keep kp e) S hi).h ?_) h⟩;intro x e' S' h;cases x with
 | normal=>exact h
 | _=>exact h.h
theorem Jbf{c:IC}(h:At pr F b0 Q c k e S):Back pr F b0 Q (.code c::k) .normal e S:=⟨h.h⟩
theorem JcA{id:Nat}(h:Back pr F b0 Q k .normal e S):Back pr F b0 Q (.blk id::k) .normal e S:=⟨h.h⟩
theorem YE{c:IC}(h:Back pr F b0 Q k .ret e S):Back pr F b0 Q (.code c::k) .ret e S:=⟨h.h⟩
theorem Y8{id:Nat}(h:Back pr F b0 Q k .ret e S):Back pr F b0 Q (.blk id::k) .ret e S:=⟨h.h⟩
theorem Yc{c:IC}{id:Nat}(h:Back pr F b0 Q k (.exit id) e S):Back pr F b0 Q (.code c::k) (.exit id) e S:=⟨h.h⟩
theorem Yd{id:Nat}(h:Back pr F b0 Q k .normal e S):Back pr F b0 Q (.blk id::k) (.exit id) e S:=by refine⟨?_⟩;simp only[Jca,if_true];exact h.h
theorem XV{id id':Nat}(hn:id'≠id)(h:Back pr F b0 Q k (.exit id') e S):Back pr F b0 Q (.blk id::k) (.exit id') e S:=by refine⟨?_⟩;simp only[Jca,if_neg hn];exact h.h
theorem JcB{x:Ex}(h:Q x e S):Back pr F b0 Q [] x e S:=⟨h⟩
variable {prev items:List Item} {kp:List Nat} {ix:Nat} {d:Option Nat} {g:Option (Nat×Bool)}
theorem Jix{e':KC}(hk:keep kp e=e')(h:Back pr F b0 Q k .normal e' S):In pr F b0 Q base prev [] kp k e S:=by subst hk;exact⟨h.h⟩
theorem Jbg{T E:Prop}{ρ:V8}(h:wanted g ρ=some true)(t:T):ifW g ρ T E:=by
 unfold wanted at h;unfold ifW;split at h
 ·exact t
 ·split at h
  ·rename_i s want b hb;simp only[V,beq_iff_eq]at h;simp only[hb];exact⟨λ_=>t,λhn=>absurd h hn⟩
  ·simp at h
  ·simp at h
theorem Jki{T E:Prop}{ρ:V8}(h:wanted g ρ=some false)(t:E):ifW g ρ T E:=by
 unfold wanted at h;unfold ifW;split at h
 ·simp at h
 ·split at h
  ·rename_i s want b hb;simp only[V,beq_eq_false_iff_ne,ne_eq]at h;simp only[hb];exact⟨λhn=>absurd hn h,λ_=>t⟩
  ·rename_i hb;simp only[hb];exact t
  ·simp at h
theorem JbF{o:QOp}{v:AV}(hw:wanted g (Jj e)=some true)(hv:QY o (Jj e) S.heap base=some v)(h:In pr F b0 Q base (⟨ix,d,g,.q o⟩::prev) items kp k (KD e d v) S):In pr F b0 Q base prev (⟨ix,d,g,.q o⟩::items) kp k e S:=by refine⟨?_⟩;simp only[wi];exact Jbg hw (by simp only[hv];exact h.h)
theorem JEF{x:Opd}{v:AV}(hv:x.val (Jj e)=some v)(h:In pr F b0 Q base (⟨ix,d,none,.q (.mov x)⟩::prev) items kp k (KD e d v) S):In pr F b0 Q base prev (⟨ix,d,none,.q (.mov x)⟩::items) kp k e S:=JbF rfl hv h
theorem Jm1{tk:TK}{op:BinOp}{x y:Opd}{u v:AV}{c:Bool}(c':Bool)(hw:wanted g (Jj e)=some true)(hx:x.val (Jj e)=some u)(hy:y.val (Jj e)=some v)(hv:Jet tk op u v=some (.bool c))(hc:c=c')(h:In pr F b0 Q base (⟨ix,d,g,.q (.bin tk op x y)⟩::prev) items kp k (KD e d (.bool c')) S):In pr F b0 Q base prev (⟨ix,d,g,.q (.bin tk op x y)⟩::items) kp k e S:=
 JbF hw (by simp only[QY,hx,hy,hv]) (hc ▸ h)
theorem JtA{tk:TK}{op:BinOp}{x y:Opd}{u v:AV}{ki:IntKind}{c c':Int}(hw:wanted g (Jj e)=some true)(hx:x.val (Jj e)=some u)(hy:y.val (Jj e)=some v)(hv:Jet tk op u v=some (.int ki c))(hc:c=c')(h:In pr F b0 Q base (⟨ix,d,g,.q (.bin tk op x y)⟩::prev) items kp k (KD e d (.int ki c')) S):In pr F b0 Q base prev (⟨ix,d,g,.q (.bin tk op x y)⟩::items) kp k e S:=
 JbF hw (by simp only[QY,hx,hy,hv]) (hc ▸ h)
theorem VN{o:QOp}(hw:wanted g (Jj e)=some false)(h:In pr F b0 Q base (⟨ix,d,g,.q o⟩::prev) items kp k (KD e d .undef) S):In pr F b0 Q base prev (⟨ix,d,g,.q o⟩::items) kp k e S:=by refine⟨?_⟩;simp only[wi];exact Jki hw h.h
theorem Yo{o:LOp}{re:List Nat}(hw:wanted g (Jj e)=some false)(hr:J8 prev re (KD e d .undef) S.heap base=true)(h:In pr F b0 Q base (⟨ix,d,g,.l o re⟩::prev) items kp k (KD e d .undef) S):In pr F b0 Q base prev (⟨ix,d,g,.l o re⟩::items) kp k e S:=by refine⟨?_⟩;simp only[wi];exact Jki hw ⟨hr,h.h⟩
theorem JwT{kd:Option Nat}{x:Opd}{n off:Nat}{cs:List AV}{v:AV}(hw:wanted g (Jj e)=some true)(hx:x.val (Jj e)=some (.ptr n off))(hH:S.heap[n]? = some (.cells cs))
  (hv:J9 kd (.ptr 0 off) [.cells cs]=some v) (h:In pr F b0 Q base (⟨ix,d,g,.q (.load kd x)⟩::prev) items kp k (KD e d v) S):In pr F b0 Q base prev (⟨ix,d,g,.q (.load kd x)⟩::items) kp k e S:=by
 refine JbF hw ?_ h;simp only[QY,hx,J9,hH];simp only[J9,Am]at hv;exact hv
theorem Jm2{x i:Opd}{sz m:Nat}{tag:Tag}{rows:List (List AV)}{ki:IntKind}{n:Int}{r:List AV}(hr:rows[m]? = some r)(hw:wanted g (Jj e)=some true)(hx:x.val (Jj e)=some (.list sz tag rows))(hi:i.val (Jj e)=some (.int ki n))(hn:n=(m:Nat))
  (h:In pr F b0 Q base (⟨ix,d,g,.q (.indexAddr sz x i)⟩::prev) items kp k (KD e d (.ref r)) S):In pr F b0 Q base prev (⟨ix,d,g,.q (.indexAddr sz x i)⟩::items) kp k e S:=by
 refine JbF hw ?_ h;subst hn;simp only[QY,hx,hi,DC,hr,A9];simp
theorem Jdf{x i:Opd}{m:Nat}{s:Jk}{ki:IntKind}{n:Int}{b:UInt8}(hr:s[m]? = some b)(hw:wanted g (Jj e)=some true)(hx:x.val (Jj e)=some (.str s))(hi:i.val (Jj e)=some (.int ki n))(hn:n=(m:Nat))
  (h:In pr F b0 Q base (⟨ix,d,g,.q (.index x i)⟩::prev) items kp k (KD e d (.int .u8 b.toNat)) S):In pr F b0 Q base prev (⟨ix,d,g,.q (.index x i)⟩::items) kp k e S:=by
 refine JbF hw ?_ h;subst hn;simp only[QY,hx,hi,DC,hr,A9];simp
theorem Jsg{x i:Opd}{sz m:Nat}{tag:Tag}{rows:List (List AV)}{ki:IntKind}{n:Int}{r:List AV}(hw:wanted g (Jj e)=some true)(hx:x.val (Jj e)=some (.list sz tag rows))(hi:i.val (Jj e)=some (.int ki n))(hn:n=(m:Nat))(hr:rows[m]? = some r)
  (h:In pr F b0 Q base (⟨ix,d,g,.q (.indexAddr sz x i)⟩::prev) items kp k (KD e d (.ref r)) S):In pr F b0 Q base prev (⟨ix,d,g,.q (.indexAddr sz x i)⟩::items) kp k e S:=Jm2 hr hw hx hi hn h
theorem JcC{x i:Opd}{m:Nat}{s:Jk}{ki:IntKind}{n:Int}{b:UInt8}(hw:wanted g (Jj e)=some true)(hx:x.val (Jj e)=some (.str s))(hi:i.val (Jj e)=some (.int ki n))(hn:n=(m:Nat))(hr:s[m]? = some b)
  (h:In pr F b0 Q base (⟨ix,d,g,.q (.index x i)⟩::prev) items kp k (KD e d (.int .u8 b.toNat)) S):In pr F b0 Q base prev (⟨ix,d,g,.q (.index x i)⟩::items) kp k e S:=Jdf hr hw hx hi hn h
theorem Jiy{x:Opd}{lo hi:Option Opd}{s t:Jk}{l r:Option Int}(hw:wanted g (Jj e)=some true)(hx:x.val (Jj e)=some (.str s))(hl:Jb8 lo (Jj e)=some l)(hh:Jb8 hi (Jj e)=some r)(hc:0<=l.getD 0/\l.getD 0<=r.getD s.length/\r.getD s.length<=s.length)
  (ht:(s.drop (l.getD 0).toNat).take ((r.getD s.length).toNat-(l.getD 0).toNat)=t) (h:In pr F b0 Q base (⟨ix,d,g,.q (.sliceS x lo hi)⟩::prev) items kp k (KD e d (.str t)) S):In pr F b0 Q base prev (⟨ix,d,g,.q (.sliceS x lo hi)⟩::items) kp k e S:=by
 refine JbF hw ?_ h;simp only[QY,hx,hl,hh,Jhk,if_pos hc,ht]
theorem Kj{j q:Nat}{zs:List AV}(hw:wanted g (Jj e)=some true)(hq:base+j=q)(hH:S.heap[q]? = some (.cells zs))(h:In pr F b0 Q base (⟨ix,d,g,.q (.alloc j zs)⟩::prev) items kp k (KD e d (.ptr q 0)) S):In pr F b0 Q base prev (⟨ix,d,g,.q (.alloc j zs)⟩::items) kp k e S:=by
 subst hq;refine JbF hw ?_ h;have hb:AV.beqL zs zs=true:=by have:=Jcr (.agg zs);simpa only[AV.beq] using this
 simp only[QY,hH,hb,if_true]
theorem Jiz{o:LOp}{re:List Nat}{v:AV}{S':St}(hw:wanted g (Jj e)=some true)(hl:XN b0 (λ_ _ _=>none) o (Jj e) S=some (.ret v,S'))(hr:J8 prev re (KD e d v) S'.heap base=true)
  (h:In pr F b0 Q base (⟨ix,d,g,.l o re⟩::prev) items kp k (KD e d v) S'):In pr F b0 Q base prev (⟨ix,d,g,.l o re⟩::items) kp k e S:=by
 refine⟨?_⟩;simp only[wi];refine Jbg hw ?_;cases o with
 | call f as=>simp only[XN]at hl;split at hl <;> simp at hl
 | _=>simp only[wl,hl];exact⟨hr,h.h⟩
theorem Jav{H0:List Blk}{rw:List Nat}{re:List Nat}{kd:Nat}{x y:Opd}{n off:Nat}{v:AV}{cs:List AV}{H':List Blk}(hw:wanted g (Jj e)=some true)(hx:x.val (Jj e)=some (.ptr n off))(hy:y.val (Jj e)=some v)(hH:H0[n]? = some (.cells cs))
  (hv:v.cells.length=kd/\v.okv=true/\off+kd<=cs.length/\(b0<=n\/Ai.below (n+1) v=true)) (hH':H0.set n (.cells (overlay cs off v.cells))=H') (hr:J8 prev re (KD e d .undef) H' base=true)
  (h:In pr F b0 Q base (⟨ix,d,g,.l (.store kd x y) re⟩::prev) items kp k (KD e d .undef) ⟨H',rw⟩):In pr F b0 Q base prev (⟨ix,d,g,.l (.store kd x y) re⟩::items) kp k e ⟨H0,rw⟩:=by
 subst hH';refine Jiz hw ?_ hr h;simp only[XN,hx,hy,hH,if_pos hv]
theorem Jhn{re:List Nat}{f:Opd}{as:List Opd}{fn:Nat}{a c vs:List AV}{v:AV}{S':St}(hw:wanted g (Jj e)=some true)(hf:f.val (Jj e)=some (.func fn a c))(ha:X9 as (Jj e)=some vs)
  (hd:Det pr F fn (a++vs++c) S (.ret v) S') (hr:J8 prev re (KD e d v) S'.heap base=true) (h:In pr F b0 Q base (⟨ix,d,g,.l (.call f as) re⟩::prev) items kp k (KD e d v) S'):In pr F b0 Q base prev (⟨ix,d,g,.l (.call f as) re⟩::items) kp k e S:=by
 refine⟨?_⟩;simp only[wi];refine Jbg hw ?_;simp only[wl,hf,ha];exact(hd _).2 ⟨hr,h.h⟩
theorem Xn{re:List Nat}{f:Opd}{as:List Opd}{fn:Nat}{a c vs:List AV}{α:Type}{p:α->Prop}{v:α->AV}{S':α->St}(hw:wanted g (Jj e)=some true)(hf:f.val (Jj e)=some (.func fn a c))(ha:X9 as (Jj e)=some vs)
  (hd:∃ x,p x/\Det pr F fn (a++vs++c) S (.ret (v x)) (S' x)) (h:∀ x,p x->J8 prev re (KD e d (v x)) (S' x).heap base=true/\In pr F b0 Q base (⟨ix,d,g,.l (.call f as) re⟩::prev) items kp k (KD e d (v x)) (S' x)):In pr F b0 Q base prev (⟨ix,d,g,.l (.call f as) re⟩::items) kp k e S:=by
 obtain⟨x,hp,hd⟩:=hd;exact Jhn hw hf ha hd (h x hp).1 (h x hp).2
theorem Zu{re:List Nat}{sz by_:Nat}{x y:Opd}{u v r:AV}{S':St}(hw:wanted g (Jj e)=some true)(hx:x.val (Jj e)=some u)(hy:y.val (Jj e)=some v)(ha:QK sz by_ u v S=some (r,S'))
  (hr:J8 prev re (KD e d r) S'.heap base=true) (h:In pr F b0 Q base (⟨ix,d,g,.l (.append sz by_ x y) re⟩::prev) items kp k (KD e d r) S'):In pr F b0 Q base prev (⟨ix,d,g,.l (.append sz by_ x y) re⟩::items) kp k e S:=by
 refine Jiz hw ?_ hr h;simp only[XN,hx,hy,ha]
theorem Jm3(h:In pr F b0 Q base prev items kp k e S):In pr F b0 Q base prev items kp k e S:=h
theorem JEG{tk:TK}{op:BinOp}{x y:Opd}(h:In pr F b0 Q base prev (⟨ix,d,g,.q (.bin tk op x y)⟩::items) kp k e S):In pr F b0 Q base prev (⟨ix,d,g,.q (.bin tk op x y)⟩::items) kp k e S:=h
theorem Jm4{c:IC}(h:At pr F b0 Q c k e S):At pr F b0 Q c k e S:=h
theorem JeQ{x:Ex}(h:Back pr F b0 Q k x e S):Back pr F b0 Q k x e S:=h
theorem Jm5{H0:List Blk}{rw:List Nat}{res:List RVar}{n0:Nat}{Q:Res->St->Prop}{rs:List AV}{v:AV}{H:List Blk}(hr:QT res e H0=some rs)(hp:X2 rs=v)(hb:Ai.below n0 v=true)(hH:H0.take n0=H)(h:Q (.ret v) ⟨H,rw⟩) :
  fin res n0 Q .ret e ⟨H0,rw⟩:=by
 subst hp hH;simp only[fin,hr,Y4,hb,if_true];exact h
theorem JgD{H0:List Blk}{rw:List Nat}{res:List RVar}{n0:Nat}{Q:Res->St->Prop}{rs:List AV}{v:AV}{H:List Blk}(hr:QT res e H0=some rs)(hp:X2 rs=v)(hb:Ai.below n0 v=true)(hH:H0.take n0=H)(h:Q (.ret v) ⟨H,rw⟩) :
  fin res n0 Q .normal e ⟨H0,rw⟩:=by
 subst hp hH;simp only[fin,hr,Y4,hb,if_true];exact h
theorem Js{H0:List Blk}{rw:List Nat}{res:List RVar}{n0:Nat}{Q:Res->St->Prop}{v:AV}{H:List Blk}(hr:QT res e H0=some [v])(hb:Ai.below n0 v=true)(hH:H0.take n0=H)(h:Q (.ret v) ⟨H,rw⟩) :
  fin res n0 Q .ret e ⟨H0,rw⟩:=Jm5 hr rfl hb hH h
theorem X7{H0:List Blk}{rw:List Nat}{res:List RVar}{n0:Nat}{Q:Res->St->Prop}{u v:AV}{vs:List AV}{H:List Blk}(hr:QT res e H0=some (u::v::vs))(hb:Ai.belowL n0 (u::v::vs)=true)(hH:H0.take n0=H)(h:Q (.ret (.tup (u::v::vs))) ⟨H,rw⟩) :
  fin res n0 Q .ret e ⟨H0,rw⟩:=Jm5 hr rfl hb hH h
theorem Jak{H0:List Blk}{rw:List Nat}{n0:Nat}{Q:Res->St->Prop}{H:List Blk}(hH:H0.take n0=H)(h:Q (.ret (.tup [])) ⟨H,rw⟩) :
  fin [] n0 Q .normal e ⟨H0,rw⟩:=JgD rfl rfl rfl hH h
def Dp{P:Prop}(_:P):Prop:=True
structure Bx(P:Prop):Prop where
 h:P
theorem bx{P:Prop}(p:P)(_d:Dp p):Bx P:=⟨p⟩
theorem ob{P:Prop}(h:Bx P):P:=h.h
theorem BH{Q:Prop}(h:Q:=by simp only[Bc,BR];omega):Q:=h
theorem AK{Q:Prop}(h:Q:=by simp only[keep,BY,Cz,Ys,Cp,CT,Ap,AC,KD,Jj,if_true,if_false,Nat.reduceEqDiff,reduceIte,A9,B4];rfl):Q:=h
theorem VO{Q:Prop}(h:Q:=by(repeat(first |(refine Jm3 ?_;first  |refine JEF rfl ?_  |(refine JEG ?_;first    |refine JtA rfl rfl rfl rfl (JbE O O) ?_    |refine Jm1 true rfl rfl rfl rfl (by first |with_reducible rfl |assumption |(simp only[decide_eq_true_eq,beq_iff_eq,bne_iff_ne,ne_eq,Bb,beq_eq_false_iff_ne,Ak];first |done |omega |assumption)) ?_    |refine Jm1 false rfl rfl rfl rfl (by first |with_reducible rfl |assumption |(simp only[decide_eq_false_iff_not,beq_eq_false_iff_ne,bne_eq_false_iff_eq,ne_eq,CA,beq_iff_eq,Ak];first |done |omega |assumption)) ?_    |refine VN rfl ?_)  |refine in_loadC hlt rfl rfl rfl (by first |exact canon_ex _ |exact canon_ty _ |assumption) (by first |assumption |exact len_ex _ |exact len_ty _) ?_  |refine JwT rfl rfl (by first |assumption |exact Kh hlt |exact(Vq hlt _).trans rfl) rfl ?_  |refine Kj rfl (D0 _ _ _) ((Vq hlt _).trans rfl) ?_  |refine Jsg rfl rfl rfl B8 Aa ?_  |refine JcC rfl rfl rfl B8 Aa ?_  |refine Jm2 Aa rfl rfl rfl O ?_  |refine Jdf Aa rfl rfl rfl O ?_  |refine in_refEx rfl rfl ?_  |refine in_listEx1 rfl rfl ?_  |refine in_listEx2 rfl rfl rfl ?_  |refine in_listTy1 rfl rfl ?_  |refine in_storeAll hlt rfl rfl rfl rfl (by first |rfl |assumption |exact len_ex _ |exact len_ty _) (by first |rfl |assumption |exact len_ex _ |exact len_ty _) (J5 _ _ _) ?_  |refine in_setI hlt rfl rfl rfl (J5 _ _ _) ?_  |refine in_setDeep hlt rfl rfl rfl (J5 _ _ _) ?_  |refine in_storeO hlt rfl rfl rfl rfl ⟨rfl,rfl,Ba rfl⟩ (J5 _ _ _) ?_  |refine Jhn rfl rfl rfl (by first |assumption |exact hk1 _ _ |exact hd1 _ |exact hd2 _ |exact hd3 _ |exact hd4 _ |exact hd5 _ |exact hd6 _) (by first |exact J5 _ _ _ |rfl) ?_  |refine Jiy rfl rfl rfl rfl BH rfl ?_  |refine JbF rfl rfl ?_  |refine VN rfl ?_  |refine Yo rfl (by first |exact J5 _ _ _ |rfl) ?_  |refine Jix AK ?_) |(refine Jm4 ?_;first  |refine Kt hm ?_  |refine Xe hm (Ar _) rfl ?_  |refine Xe hm (Jau hlt) XO ?_  |refine Jde rfl ?_  |refine Jbe rfl ?_  |refine at_true' rfl Aa ?_  |refine at_false' rfl Aa ?_  |refine Jcz ?_  |refine JeO ?_  |refine Jiw ?_  |refine JeP ?_) |(refine JeQ ?_;first  |refine Jbf ?_  |refine JcA ?_  |refine YE ?_  |refine Y8 ?_  |refine Yc ?_  |refine Yd ?_  |refine XV O ?_  |refine JcB ?_)));all_goals(refine ob ?_;apply_rules (newGoals:=.nonDependentOnly) only[bx];exact trivial)):Q:=h
abbrev Qz(n:Int):AV:=.int .i64 n
abbrev Qq(i d:Nat)(o:QOp):Item:=⟨i,some d,none,.q o⟩
abbrev Qw(i:Nat)(o:LOp)(r:List Nat):Item:=⟨i,none,none,.l o r⟩
abbrev Ql(i d:Nat)(o:LOp)(r:List Nat):Item:=⟨i,some d,none,.l o r⟩
abbrev Qs(i k x y:Nat)(r:List Nat):Item:=⟨i,none,none,.l (.store k (.tmp x) (.tmp y)) r⟩
abbrev Qc(i d f:Nat)(xs:List Opd)(r:List Nat):Item:=⟨i,some d,none,.l (.call (.const (.func f [] [])) xs) r⟩
abbrev Qm(i d x:Nat):Item:=⟨i,some d,none,.q (.mov (.tmp x))⟩
abbrev Qf(i d o x:Nat):Item:=⟨i,some d,none,.q (.fieldAddr o (.tmp x))⟩
abbrev Qd(i d x:Nat):Item:=⟨i,some d,none,.q (.load none (.tmp x))⟩
abbrev Qe(i d k x:Nat):Item:=⟨i,some d,none,.q (.load (some k) (.tmp x))⟩
abbrev Qi(i d k x y:Nat):Item:=⟨i,some d,none,.q (.indexAddr k (.tmp x) (.tmp y))⟩
abbrev Qn(i d x:Nat):Item:=⟨i,some d,none,.q (.len (.tmp x))⟩
abbrev Qx(i d x k:Nat):Item:=⟨i,some d,none,.q (.extract (.tmp x) k)⟩
abbrev Qu(i d x:Nat):Item:=⟨i,some d,none,.q (.unot (.tmp x))⟩
abbrev Qb(i d:Nat)(p:BinOp)(x y:Nat):Item:=⟨i,some d,none,.q (.bin .num p (.tmp x) (.tmp y))⟩
abbrev Qk(i d:Nat)(v:AV):Item:=⟨i,some d,none,.q (.mov (.const v))⟩
abbrev Qv(i d:Nat)(p:BinOp)(x:Nat)(v:AV):Item:=⟨i,some d,none,.q (.bin .num p (.tmp x) (.const v))⟩
variable {pr:Jz} {F:Nat->Option IFn}
structure LdAt(kd:Option Nat)(v:AV)(S:St)(K:AV->Prop):Prop where
 h:∃ u,J9 kd v S.heap=some u/\K u
structure BnAt(tk:TK)(op:BinOp)(u v:AV)(K:AV->Prop):Prop where
 h:∃ w,Jet tk op u v=some w/\K w
structure IaAt(sz:Nat)(u i:AV)(K:AV->Prop):Prop where
 h:∃ r,(match u,i with
  | .list sz' _ rows,.int _ n=>if 0<=n/\sz'=sz then(rows[n.toNat]?).map AV.ref else none
  | .arr m off sz' len,.int _ n=>if 0<=n/\n<len/\sz'=sz then some (.ptr m (off+n.toNat*sz))else none
  | _,_=>none)=some r/\K r
structure LsAt(sz:Nat)(vs:List AV)(K:AV->Prop):Prop where
 h:∃ rows,Yx sz vs=some rows/\K (.list sz .full rows)
def JcD(b0 kd:Nat)(p v:AV)(S:St):Option St:=
 match p with
 | .ptr n off=>match S.heap[n]? with
  | some (.cells cs)=>if v.cells.length=kd/\v.okv=true/\off+kd<=cs.length/\(b0<=n\/below (n+1) v=true)then some {S with heap:=S.heap.set n (.cells (overlay cs off v.cells))} else none
  | _=>none
 | _=>none
structure StAt(b0 kd:Nat)(p v:AV)(S:St)(K:St->Prop):Prop where
 h:∃ S',JcD b0 kd p v S=some S'/\K S'
structure ClAt(pr:Jz)(F:Nat->Option IFn)(fn:Nat)(args:List AV)(S:St)(K:AV->St->Prop):Prop where
 h:∃ v S',Det pr F fn args S (.ret v) S'/\K v S'
structure ApAt(sz by_:Nat)(u v:AV)(S:St)(K:AV->St->Prop):Prop where
 h:∃ r S',QK sz by_ u v S=some (r,S')/\K r S'
structure LkAt(zero:AV)(ok:Bool)(m key:AV)(S:St)(K:AV->Prop):Prop where
 h:∃ r,(match m,key with
  | .map n,.str s=>match S.heap[n]? with
   | some (.map es)=>match Vn es s with
    | some v=>some (if ok then AV.tup [v,.bool true] else v)
    | none=>some (if ok then .tup [zero,.bool false] else zero)
   | _=>none
  | .nilm,.str _=>some (if ok then .tup [zero,.bool false] else zero)
  | _,_=>none)=some r/\K r
variable {b0 base:Nat} {Q:Ex->KC->St->Prop} {k:List Fr} {e:KC} {prev items:List Item} {kp:List Nat} {ix:Nat} {d:Option Nat} {g:Option (Nat×Bool)} {S:St}
theorem Jqp{x:Opd}{v:AV}(hw:wanted g (Jj e)=some true)(hx:x.val (Jj e)=some v)(h:In pr F b0 Q base (⟨ix,d,g,.q (.mov x)⟩::prev) items kp k (KD e d v) S):In pr F b0 Q base prev (⟨ix,d,g,.q (.mov x)⟩::items) kp k e S:=JbF hw hx h
theorem XP{kd:Option Nat}{x:Opd}{v:AV}(hw:wanted g (Jj e)=some true)(hx:x.val (Jj e)=some v)(h:LdAt kd v S λu=>In pr F b0 Q base (⟨ix,d,g,.q (.load kd x)⟩::prev) items kp k (KD e d u) S):In pr F b0 Q base prev (⟨ix,d,g,.q (.load kd x)⟩::items) kp k e S:=by obtain⟨u,hu,hk⟩:=h;exact JbF hw (by simp only[QY,hx,hu]) hk
theorem Jqq{tk:TK}{op:BinOp}{x y:Opd}{u v:AV}(hw:wanted g (Jj e)=some true)(hx:x.val (Jj e)=some u)(hy:y.val (Jj e)=some v)(h:BnAt tk op u v λw=>In pr F b0 Q base (⟨ix,d,g,.q (.bin tk op x y)⟩::prev) items kp k (KD e d w) S):In pr F b0 Q base prev (⟨ix,d,g,.q (.bin tk op x y)⟩::items) kp k e S:=by obtain⟨w,hu,hk⟩:=h;exact JbF hw (by simp only[QY,hx,hy,hu]) hk
theorem Jkj{sz:Nat}{x y:Opd}{u v:AV}(hw:wanted g (Jj e)=some true)(hx:x.val (Jj e)=some u)(hy:y.val (Jj e)=some v)(h:IaAt sz u v λw=>In pr F b0 Q base (⟨ix,d,g,.q (.indexAddr sz x y)⟩::prev) items kp k (KD e d w) S):In pr F b0 Q base prev (⟨ix,d,g,.q (.indexAddr sz x y)⟩::items) kp k e S:=by obtain⟨w,hu,hk⟩:=h;refine JbF hw ?_ hk;simp only[QY,hx,hy];cases u <;> cases v <;> simp_all
theorem Q1{sz:Nat}{xs:List Opd}{vs:List AV}(hw:wanted g (Jj e)=some true)(hx:X9 xs (Jj e)=some vs)(h:LsAt sz vs λw=>In pr F b0 Q base (⟨ix,d,g,.q (.mkList sz xs)⟩::prev) items kp k (KD e d w) S):In pr F b0 Q base prev (⟨ix,d,g,.q (.mkList sz xs)⟩::items) kp k e S:=by obtain⟨w,hu,hk⟩:=h;exact JbF hw (by simp only[QY,hx,hu,A9]) hk
theorem Jaw{zero:AV}{ok:Bool}{x y:Opd}{u v:AV}(hw:wanted g (Jj e)=some true)(hx:x.val (Jj e)=some u)(hy:y.val (Jj e)=some v)(h:LkAt zero ok u v S λw=>In pr F b0 Q base (⟨ix,d,g,.q (.lookup zero ok x y)⟩::prev) items kp k (KD e d w) S):In pr F b0 Q base prev (⟨ix,d,g,.q (.lookup zero ok x y)⟩::items) kp k e S:=by obtain⟨w,hu,hk⟩:=h;refine JbF hw ?_ hk;simp only[QY,hx,hy];cases u <;> cases v <;> first |exact hu |(exact absurd hu Ag)
theorem VG{re:List Nat}{kd:Nat}{x y:Opd}{u v:AV}(hw:wanted g (Jj e)=some true)(hx:x.val (Jj e)=some u)(hy:y.val (Jj e)=some v)
  (h:StAt b0 kd u v S λS'=>J8 prev re (KD e d .undef) S'.heap base=true/\In pr F b0 Q base (⟨ix,d,g,.l (.store kd x y) re⟩::prev) items kp k (KD e d .undef) S'):In pr F b0 Q base prev (⟨ix,d,g,.l (.store kd x y) re⟩::items) kp k e S:=by
 obtain⟨S',hu,hr,hk⟩:=h;refine Jiz hw ?_ hr hk;unfold JcD at hu;simp only[XN,hx,hy];split at hu
 ·simp only;split at hu
  ·rename_i cs hH;split at hu
   ·rename_i hc;simp only[V]at hu;rw[hH];simp only;rw[if_pos hc,hu]
   ·simp at hu
  ·simp at hu
 ·simp at hu
theorem Je{re:List Nat}{f:Opd}{as_:List Opd}{fn:Nat}{vs:List AV}(hw:wanted g (Jj e)=some true)(hf:f.val (Jj e)=some (.func fn [] []))(ha:X9 as_ (Jj e)=some vs)
  (h:ClAt pr F fn vs S λv S'=>J8 prev re (KD e d v) S'.heap base=true/\In pr F b0 Q base (⟨ix,d,g,.l (.call f as_) re⟩::prev) items kp k (KD e d v) S'):In pr F b0 Q base prev (⟨ix,d,g,.l (.call f as_) re⟩::items) kp k e S:=by
 obtain⟨v,S',hd,hr,hk⟩:=h;exact Jhn hw hf ha (by simpa using hd) hr hk
theorem JeR{re:List Nat}{f:Opd}{as_:List Opd}{fn:Nat}{a c vs ws:List AV}(hw:wanted g (Jj e)=some true)(hf:f.val (Jj e)=some (.func fn a c))(ha:X9 as_ (Jj e)=some vs)(hws:a++vs++c=ws)
  (h:ClAt pr F fn ws S λv S'=>J8 prev re (KD e d v) S'.heap base=true/\In pr F b0 Q base (⟨ix,d,g,.l (.call f as_) re⟩::prev) items kp k (KD e d v) S'):In pr F b0 Q base prev (⟨ix,d,g,.l (.call f as_) re⟩::items) kp k e S:=by
 subst hws;obtain⟨v,S',hd,hr,hk⟩:=h;exact Jhn hw hf ha hd hr hk
theorem JW{re:List Nat}{sz by_:Nat}{x y:Opd}{u v:AV}(hw:wanted g (Jj e)=some true)(hx:x.val (Jj e)=some u)(hy:y.val (Jj e)=some v)
  (h:ApAt sz by_ u v S λr S'=>J8 prev re (KD e d r) S'.heap base=true/\In pr F b0 Q base (⟨ix,d,g,.l (.append sz by_ x y) re⟩::prev) items kp k (KD e d r) S'):In pr F b0 Q base prev (⟨ix,d,g,.l (.append sz by_ x y) re⟩::items) kp k e S:=by
 obtain⟨r,S',hu,hr,hk⟩:=h;exact Zu hw hx hy hu hr hk
theorem Jal{re:List Nat}{sz by_:Nat}{x y i z:Opd}{dd j9 j10:Nat}{s0 szb m:Nat}{tag tagb:Tag}{rows:List (List AV)}{rb row:List AV}{v:AV}(hw:wanted g (Jj e)=some true)(hx:x.val (Jj e)=some (.list s0 tag rows))(hy:y.val (Jj e)=some (.list szb tagb [rb]))(hi:i.val (Jj e)=some (.int .i64 m))(hz:z.val (Jj e)=some v)
  (hm:m=rows.length/\szb=sz/\v.cells.length=sz/\J7 v=true/\v.okv=true/\Jj e dd=none) (hrow:Jh v.cells=row)
  (h:ApAt sz by_ (.list s0 tag rows) (.list sz .full [row]) S λr S'=>J8 prev re (KD e d r) S'.heap base=true/\In pr F b0 Q base (⟨ix,d,g,.l (.append1 sz by_ x y i z dd j9 j10) re⟩::prev) items kp k (KD e d r) S'):In pr F b0 Q base prev (⟨ix,d,g,.l (.append1 sz by_ x y i z dd j9 j10) re⟩::items) kp k e S:=by
 obtain⟨r,S',hu,hr,hk⟩:=h;obtain⟨h1,h2,h3,h4,h5,h6⟩:=hm;subst h2;subst hrow;refine Jiz hw ?_ hr hk;simp only[XN,hx,hy,hi,hz];simp[h1,h3,h4,h5,h6,hu]
theorem g_q{q:QOp}{v:AV}(hw:wanted g (Jj e)=some true)(hv:QY q (Jj e) S.heap base=some v)(h:In pr F b0 Q base (⟨ix,d,g,.q q⟩::prev) items kp k (KD e d v) S):In pr F b0 Q base prev (⟨ix,d,g,.q q⟩::items) kp k e S:=JbF hw hv h
theorem JwU{q:QOp}(h:In pr F b0 Q base prev (⟨ix,d,g,.q q⟩::items) kp k e S):In pr F b0 Q base prev (⟨ix,d,g,.q q⟩::items) kp k e S:=h
theorem JwV{re:List Nat}{l:LOp}(h:In pr F b0 Q base prev (⟨ix,d,g,.l l re⟩::items) kp k e S):In pr F b0 Q base prev (⟨ix,d,g,.l l re⟩::items) kp k e S:=h
theorem XQ{prev:List Item}{e:KC}{H:List Blk}{base:Nat}:J8 prev [] e H base=true:=J5 _ _ _
section
variable {tk:TK} {op:BinOp} {u v:AV} {K:AV->Prop}
theorem YX{ki:IntKind}{c c':Int}(hv:Jet tk op u v=some (.int ki c))(hc:c=c')(h:K (.int ki c')):BnAt tk op u v K:=⟨_,hv,hc ▸ h⟩
theorem Jls{c:Bool}(hv:Jet tk op u v=some (.bool c))(hc:c=true)(h:K (.bool true)):BnAt tk op u v K:=⟨_,hv,hc ▸ h⟩
theorem Jho{c:Bool}(hv:Jet tk op u v=some (.bool c))(hc:c=false)(h:K (.bool false)):BnAt tk op u v K:=⟨_,hv,hc ▸ h⟩
theorem Jqr{c:Bool}(hv:Jet tk op u v=some (.bool c))(h:c=true->K (.bool true))(h':c=false->K (.bool false)):BnAt tk op u v K:=by
 cases c with
 | true=>exact⟨_,hv,h rfl⟩
 | false=>exact⟨_,hv,h' rfl⟩
theorem Jqs{c:Jk}(hv:Jet tk op u v=some (.str c))(h:K (.str c)):BnAt tk op u v K:=⟨_,hv,h⟩
theorem Jqt{s t:Jk}(hl:s.length+t.length<4611686018427387904)(h:K (.str (s++t))):BnAt .num .add (.str s) (.str t) K:=⟨_,by simp only[Jet,if_pos hl],h⟩
end
section
variable {K:AV->Prop}
theorem Jd0{cs:List AV}{u:AV}(hu:cs[0]? = some u)(h:K u):LdAt none (.ref cs) S K:=⟨u,hu,h⟩
theorem Jlt{n off:Nat}{cs:List AV}{u:AV}(hH:S.heap[n]? = some (.cells cs))(hu:cs[off]? = some u)(h:K u):LdAt none (.ptr n off) S K:=⟨u,by simp only[J9,hH,hu],h⟩
theorem JcE{n m:Nat}{cs vs:List AV}(hH:S.heap[n]? = some (.cells cs))(hc:Jh cs=vs)(hl:cs.length=m)(h:K (.agg vs)):LdAt (some m) (.ptr n 0) S K:=by refine⟨_,?_,h⟩;simp only[J9,hH,hl,AF,Ao,if_true,AA];rw[AB O,hc]
theorem JtB{m:Nat}{cs vs:List AV}(hl:m<=cs.length)(hc:cs.take m=vs)(h:K (.agg vs)):LdAt (some m) (.ref cs) S K:=⟨_,by simp only[J9,if_pos hl,hc],h⟩
end
section
variable {K:AV->Prop}
theorem JaZ{sz m:Nat}{tag:Tag}{rows:List (List AV)}{ki:IntKind}{n:Int}{r:List AV}(hr:rows[m]? = some r)(hn:n=(m:Nat))(h:K (.ref r)):IaAt sz (.list sz tag rows) (.int ki n) K:=by subst hn;exact⟨_,by simp[hr],h⟩
theorem Jkk{sz m off len:Nat}{ki:IntKind}{n:Int}{j:Nat}(hn:n=(j:Nat))(hl:j<len)(h:K (.ptr m (off+j*sz))):IaAt sz (.arr m off sz len) (.int ki n) K:=by subst hn;exact⟨_,by simp[hl],h⟩
end
theorem Ks{fn:Nat}{args:List AV}{K:AV->St->Prop}{v:AV}{S':St}(hd:Det pr F fn args S (.ret v) S')(h:K v S'):ClAt pr F fn args S K:=⟨_,_,hd,h⟩
theorem JgE{tk:TK}(op:BinOp){u v:AV}{K:AV->Prop}(h:BnAt tk op u v K):BnAt tk op u v K:=h
theorem Jd1{tk:TK}(op:BinOp){u v:Jk}{K:AV->Prop}(h:BnAt tk op (.str u) (.str v) K):BnAt tk op (.str u) (.str v) K:=h
theorem JbG{m:Nat}{u:List AV}{K:AV->Prop}(h:LdAt (some m) (.ref u) S K):LdAt (some m) (.ref u) S K:=h
theorem JbH{m n off:Nat}{K:AV->Prop}(h:LdAt (some m) (.ptr n off) S K):LdAt (some m) (.ptr n off) S K:=h
theorem Jax{n off:Nat}{K:AV->Prop}(h:LdAt none (.ptr n off) S K):LdAt none (.ptr n off) S K:=h
theorem Jlu{sz:Nat}{u:List AV}{K:AV->Prop}(h:LsAt sz [.agg u] K):LsAt sz [.agg u] K:=h
theorem Jlv{sz:Nat}{u v:List AV}{K:AV->Prop}(h:LsAt sz [.agg u,.agg v] K):LsAt sz [.agg u,.agg v] K:=h
theorem Ye(fn:Nat){args:List AV}{K:AV->St->Prop}(h:ClAt pr F fn args S K):ClAt pr F fn args S K:=h
theorem Z1(fn:Nat){a c:AV}(b:AV){K:AV->St->Prop}(h:ClAt pr F fn [a,b,c] S K):ClAt pr F fn [a,b,c] S K:=h
theorem JeS{kd:Nat}{p:AV}{cs:List AV}{K:St->Prop}(h:StAt b0 kd p (.agg cs) S K):StAt b0 kd p (.agg cs) S K:=h
theorem Jlw{x:Opd}(h:In pr F b0 Q base prev (⟨ix,d,g,.q (.mov x)⟩::items) kp k e S):In pr F b0 Q base prev (⟨ix,d,g,.q (.mov x)⟩::items) kp k e S:=h
theorem YL{kd:Option Nat}{x:Opd}(h:In pr F b0 Q base prev (⟨ix,d,g,.q (.load kd x)⟩::items) kp k e S):In pr F b0 Q base prev (⟨ix,d,g,.q (.load kd x)⟩::items) kp k e S:=h
theorem Jlx{tk:TK}{op:BinOp}{x y:Opd}(h:In pr F b0 Q base prev (⟨ix,d,g,.q (.bin tk op x y)⟩::items) kp k e S):In pr F b0 Q base prev (⟨ix,d,g,.q (.bin tk op x y)⟩::items) kp k e S:=h
theorem Jly{sz:Nat}{x y:Opd}(h:In pr F b0 Q base prev (⟨ix,d,g,.q (.indexAddr sz x y)⟩::items) kp k e S):In pr F b0 Q base prev (⟨ix,d,g,.q (.indexAddr sz x y)⟩::items) kp k e S:=h
theorem Jqu{x y:Opd}(h:In pr F b0 Q base prev (⟨ix,d,g,.q (.index x y)⟩::items) kp k e S):In pr F b0 Q base prev (⟨ix,d,g,.q (.index x y)⟩::items) kp k e S:=h
theorem Qp{sz:Nat}{xs:List Opd}(h:In pr F b0 Q base prev (⟨ix,d,g,.q (.mkList sz xs)⟩::items) kp k e S):In pr F b0 Q base prev (⟨ix,d,g,.q (.mkList sz xs)⟩::items) kp k e S:=h
theorem Jbh{j:Nat}{zs:List AV}(h:In pr F b0 Q base prev (⟨ix,d,g,.q (.alloc j zs)⟩::items) kp k e S):In pr F b0 Q base prev (⟨ix,d,g,.q (.alloc j zs)⟩::items) kp k e S:=h
theorem JfG{zero:AV}{ok:Bool}{x y:Opd}(h:In pr F b0 Q base prev (⟨ix,d,g,.q (.lookup zero ok x y)⟩::items) kp k e S):In pr F b0 Q base prev (⟨ix,d,g,.q (.lookup zero ok x y)⟩::items) kp k e S:=h
theorem Jlz{x:Opd}{l u:Option Opd}(h:In pr F b0 Q base prev (⟨ix,d,g,.q (.sliceS x l u)⟩::items) kp k e S):In pr F b0 Q base prev (⟨ix,d,g,.q (.sliceS x l u)⟩::items) kp k e S:=h
theorem Vh{re:List Nat}{kd:Nat}{x y:Opd}(h:In pr F b0 Q base prev (⟨ix,d,g,.l (.store kd x y) re⟩::items) kp k e S):In pr F b0 Q base prev (⟨ix,d,g,.l (.store kd x y) re⟩::items) kp k e S:=h
theorem Jhp{re:List Nat}{f:Opd}{as_:List Opd}(h:In pr F b0 Q base prev (⟨ix,d,g,.l (.call f as_) re⟩::items) kp k e S):In pr F b0 Q base prev (⟨ix,d,g,.l (.call f as_) re⟩::items) kp k e S:=h
theorem JT{re:List Nat}{sz by_:Nat}{x y:Opd}(h:In pr F b0 Q base prev (⟨ix,d,g,.l (.append sz by_ x y) re⟩::items) kp k e S):In pr F b0 Q base prev (⟨ix,d,g,.l (.append sz by_ x y) re⟩::items) kp k e S:=h
theorem Zv{re:List Nat}{sz by_:Nat}{x y i z:Opd}{dd j9 j10:Nat}(h:In pr F b0 Q base prev (⟨ix,d,g,.l (.append1 sz by_ x y i z dd j9 j10) re⟩::items) kp k e S):In pr F b0 Q base prev (⟨ix,d,g,.l (.append1 sz by_ x y i z dd j9 j10) re⟩::items) kp k e S:=h
theorem JlA(h:In pr F b0 Q base prev [] kp k e S):In pr F b0 Q base prev [] kp k e S:=h
theorem Jdg{al:List (List AV)}(h:At pr F b0 Q (.region al items kp) k e S):At pr F b0 Q (.region al items kp) k e S:=h
theorem Jhq{c:Opd}{a b:IC}(h:At pr F b0 Q (.cond c a b) k e S):At pr F b0 Q (.cond c a b) k e S:=h
end Go.Proofs.YtmeakjgbjldkdaaGreat.Ai
