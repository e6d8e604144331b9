/- A part of what is proved: Ai1, Ai2, Ai3, Ai4, Ai5, Ai6, Ai7, Ai8, Ai9, Ai10, Ai11, Ai12, Ai13. No condition. -/
import GoSem.Dispatch
import Derived.Deep.AppendSrc
import Derived.Deep.MidRow
import Derived.Calls
import Derived.Laws.Strings
import Derived.Laws.Strings2
import Derived.Laws.Build
import Derived.Laws.Small
import Derived.Laws.Pointers
import Derived.Deep.Upon
import Derived.IntWalk
import Derived.Orders
set_option maxRecDepth 100000
set_option maxHeartbeats 16000000
noncomputable section
namespace Go.Proofs.YtmeakjgbjldkdaaGreat
abbrev Ao:=@Nat.le_refl
abbrev BG:=@List.append_assoc
abbrev BX:=@Nat.le_trans
abbrev Bs:=@Nat.add_mul
abbrev Cg:=@List.length_pos_iff
abbrev CN:=@List.drop_append_of_le_length
abbrev BM:=@List.take_append_of_le_length
abbrev AS:=@List.mem_cons
abbrev Aw:=@List.cons_append
abbrev Ay:=@List.take_succ_cons
abbrev BF:=@List.flatten_cons
abbrev Bh:=@Nat.lt_of_lt_of_le
abbrev BS:=@Array.getElem?_setIfInBounds_ne
abbrev Ah:=@Bool.and_eq_true
abbrev V:=@Option.some.injEq
abbrev Ap:=@List.map_cons
abbrev Ac:=@List.getElem?_eq_some_iff
abbrev Ci:=@List.getElem?_take
abbrev A6:=@Sem.run_bind
abbrev Bg:=@Sem.run_pure
abbrev AW:=@Result.andThen_ok
abbrev BI:=@Option.ite_none_right_eq_some
abbrev AQ:=@Array.getElem?_eq_some_iff
abbrev Ar:=@List.append_nil
abbrev AB:=@List.take_of_length_le
abbrev Ad:=@List.length_cons
abbrev Cp:=@List.zipIdx_cons
abbrev Ce:=@List.foldl_cons
abbrev DW:=@Array.toList_setIfInBounds
abbrev CC:=@List.set_eq_take_append_cons_drop
abbrev CG:=@List.take_append
abbrev DI:=@List.drop_append
abbrev CE:=@List.drop_of_length_le
abbrev Az:=@List.drop_succ_cons
abbrev DR:=@List.drop_drop
abbrev Au:=@List.nil_append
abbrev AE:=@Nat.add_zero
abbrev Bu:=@Array.length_toList
abbrev Af:=@List.length_nil
abbrev A9:=@Option.map_some
abbrev AG:=@List.length_append
abbrev A8:=@List.length_take
abbrev Ch:=@List.length_drop
abbrev Cr:=@Array.ext'
abbrev Bb:=@Bool.not_eq_true'
abbrev CJ:=@Sem.run_ite
abbrev Cn:=@ByteArray.toList_mk
abbrev BQ:=@Option.isSome_iff_exists
abbrev Bc:=@Option.getD_some
abbrev BR:=@Option.getD_none
abbrev CM:=@List.mem_of_mem_drop
abbrev BV:=@Nat.mul_le_mul_right
abbrev BN:=@Option.map_eq_some_iff
abbrev Aq:=@List.mem_of_getElem?
abbrev Dl:=@Bool.and_false
abbrev AT:=@Bool.false_eq_true
abbrev AY:=@List.drop_eq_getElem_cons
abbrev Ab:=@List.getElem?_eq_getElem
abbrev DL:=@Nat.mul_eq_zero
abbrev AA:=@List.drop_zero
abbrev BW:=@Bool.true_and
abbrev A0:=@Bool.and_self
abbrev Dd:=@Array.toList_map
abbrev AC:=@List.map_nil
abbrev CF:=@Array.getElem?_modify
abbrev A3:=@List.getElem?_set_self
abbrev Bf:=@List.getElem?_set_ne
abbrev De:=@Nat.le_of_eq
abbrev AZ:=@List.getElem?_append_left
abbrev AP:=@Prod.mk.injEq
abbrev AM:=@List.mem_append
abbrev Ds:=@List.flatten_append
abbrev Cv:=@Nat.sub_self
abbrev CS:=@Result.ok.injEq
abbrev Dn:=@List.replicate_succ
abbrev CK:=@Nat.one_mul
abbrev An:=@List.map_append
abbrev DA:=@List.map_map
abbrev Bp:=@Bool.or_eq_true
abbrev DV:=@Bool.and_assoc
abbrev Bo:=@List.all_eq_true
abbrev AF:=@Nat.zero_add
abbrev B1:=@List.all_cons
abbrev AX:=@Array.getD_eq_getD_getElem?
abbrev Db:=@Array.getElem?_eq_getElem
abbrev Co:=@Option.bind_some
abbrev DP:=@List.nodup_nil
abbrev BD:=@List.contains_eq_mem
abbrev B6:=@List.nodup_cons
abbrev A7:=@List.mem_cons_of_mem
abbrev BY:=@List.filterMap_cons
abbrev CW:=@List.mem_filterMap
abbrev BK:=@List.pairwise_cons
abbrev B3:=@Bool.false_or
abbrev CI:=@Bool.and_true
abbrev Cc:=@List.mem_range
abbrev Bz:=@List.length_eq_zero_iff
abbrev DH:=@List.eq_nil_iff_forall_not_mem
abbrev DZ:=@List.exists_mem_of_ne_nil
abbrev Bw:=@List.mem_map
abbrev CY:=@List.append_of_mem
abbrev Cb:=@List.pairwise_append
abbrev Dy:=@Nat.lt_or_ge
abbrev DO:=@Nat.not_lt
theorem O{Q:Prop}(h:Q:=by omega):Q:=h
theorem AR{Q:Prop}(h:Q:=by simp;omega):Q:=h
theorem Ag{Q:Prop}(h:Q:=by simp):Q:=h
theorem Aa{Q:Prop}(h:Q:=by assumption):Q:=h
theorem Bv{Q:Prop}(h:Q:=by split <;> omega):Q:=h
theorem B8{Q:Prop}(h:Q:=by with_reducible rfl):Q:=h
theorem AO{Q:Prop}(h:Q:=by cbv):Q:=h
theorem Aj{Q:Prop}(h:Q:=by decide):Q:=h
theorem Bd{Q:Prop}(h:Q:=by simp only;omega):Q:=h
end Go.Proofs.YtmeakjgbjldkdaaGreat
namespace Go.Proofs.YtmeakjgbjldkdaaGreat.Ai
open Go
abbrev Jk:=List UInt8
inductive Tag where
 | full |row (b e:Nat) |dead |still
 deriving DecidableEq,Inhabited
inductive AV where
 | bool (b:Bool) |int (k:IntKind) (n:Int) |str (s:Jk)
 | nilp |ptr (n off:Nat) |ref (cells:List AV)
 | list (sz:Nat) (tag:Tag) (rows:List (List AV))
 | arr (n off sz len:Nat)
 | nilm |map (n:Nat)
 | nilf |func (f:Nat) (first captured:List AV)
 | nili |iface (t:Nat) (v:AV)
 | agg (cs:List AV) |tup (vs:List AV)
 | undef
 deriving Inhabited
def AV.cells:AV->List AV
 | .agg cs=>cs
 | v=>[v]
def AV.okv:AV->Bool
 | .tup _ |.undef=>false
 | _=>true
def AV.one:AV->Bool
 | .agg _ |.tup _ |.undef=>false
 | _=>true
mutual
def AV.beq:AV->AV->Bool
 | .bool a,.bool b=>a == b
 | .int k a,.int l b=>k == l && a == b
 | .str a,.str b=>a == b
 | .nilp,.nilp=>true
 | .ptr a b,.ptr c d=>a == c && b == d
 | .ref a,.ref b=>AV.beqL a b
 | .list a t r,.list b u s=>a == b && t == u && AV.beqLL r s
 | .arr a b c d,.arr e f g h=>a == e && b == f && c == g && d == h
 | .nilm,.nilm=>true
 | .map a,.map b=>a == b
 | .nilf,.nilf=>true
 | .func f a b,.func g c d=>f == g && AV.beqL a c && AV.beqL b d
 | .nili,.nili=>true
 | .iface t a,.iface u b=>t == u && AV.beq a b
 | .agg a,.agg b=>AV.beqL a b
 | .tup a,.tup b=>AV.beqL a b
 | .undef,.undef=>true
 | _,_=>false
def AV.beqL:List AV->List AV->Bool
 | [],[]=>true
 | a::as,b::bs=>AV.beq a b && AV.beqL as bs
 | _,_=>false
def AV.beqLL:List (List AV)->List (List AV)->Bool
 | [],[]=>true
 | a::as,b::bs=>AV.beqL a b && AV.beqLL as bs
 | _,_=>false
end
inductive Blk where
 | cells (cs:List AV)
 | map (es:List (Jk×AV))
 deriving Inhabited
structure St where
 heap:List Blk
 rows:List Nat
abbrev KC:=List (Nat×AV)
def Jj:KC->Nat->Option AV
 | [],_=>none
 |(d,v)::e,t=>if d=t then some v else Jj e t
inductive Opd where
 | tmp (t:Nat) |const (v:AV)
 deriving Inhabited
abbrev V8:=Nat->Option AV
def Opd.val:Opd->V8->Option AV
 | .tmp t,e=>e t
 | .const v,_=>some v
def X9:List Opd->V8->Option (List AV)
 | [],_=>some []
 | x::xs,e=>match x.val e,X9 xs e with
  | some v,some vs=>some (v::vs)
  | _,_=>none
def canon1:AV->AV
 | .list sz .full []=>.list sz .full []
 | .list sz _ rows=>.list sz .dead rows
 | v=>v
def Jh(cs:List AV):List AV:=cs.map canon1
mutual
def J7:AV->Bool
 | .ptr .. |.arr .. |.map _=>false
 | .func _ a b=>Kl a && Kl b
 | .ref cs=>Kl cs
 | .iface _ v=>J7 v
 | .agg cs=>Kl cs
 | .tup cs=>Kl cs
 | _=>true
def Kl:List AV->Bool
 | []=>true
 | v::vs=>J7 v && Kl vs
end
mutual
def below(n:Nat):AV->Bool
 | .ptr m _ |.arr m _ _ _ |.map m=>m<n
 | .func _ a b=>belowL n a && belowL n b
 | .ref cs=>belowL n cs
 | .iface _ v=>below n v
 | .agg cs=>belowL n cs
 | .tup cs=>belowL n cs
 | _=>true
def belowL(n:Nat):List AV->Bool
 | []=>true
 | v::vs=>below n v && belowL n vs
end
def chunks(sz:Nat):Nat->List AV->Option (List (List AV))
 | 0,_=>some []
 | n+1,cs=>if sz<=cs.length then(chunks sz n (cs.drop sz)).map (cs.take sz::·)else none
def Y3(n0:Nat)(H:List Blk):AV->AV
 | .arr n off sz len=>if n<n0 then .arr n off sz len else
  match H[n]? with
  | some (.cells cs)=>match chunks sz len (cs.drop off)with
   | some rows=>if Kl cs && 0<sz then .list sz .dead (rows.map Jh)else .arr n off sz len
   | none=>.arr n off sz len
  | _=>.arr n off sz len
 | v=>v
def Jcl(n0:Nat)(H:List Blk):AV->AV
 | .tup vs=>.tup (vs.map (Y3 n0 H))
 | v=>Y3 n0 H v
def J9(k:Option Nat)(a:AV)(H:List Blk):Option AV:=
 match a with
 | .ptr n off=>match H[n]? with
  | some (.cells cs)=>match k with
   | none=>cs[off]?
   | some m=>if off+m<=cs.length then some (.agg (Jh ((cs.drop off).take m)))else none
  | _=>none
 | .ref cs=>match k with
  | none=>cs[0]?
  | some m=>if m<=cs.length then some (.agg (cs.take m))else none
 | _=>none
def i64(n:Int):AV:=.int .i64 n
def JSP:AV->Option Int
 | .int _ n=>some n
 | _=>none
inductive TK where
 | num |bool |ptr |two
 deriving DecidableEq,Inhabited
def Jet(tk:TK)(op:BinOp)(x y:AV):Option AV:=
 match x,y with
 | .int k a,.int k' b=>if k=k' then
   match op with
   | .add=>some (.int k (k.wrap (a+b)))
   | .sub=>some (.int k (k.wrap (a-b)))
   | .mul=>some (.int k (k.wrap (a*b)))
   | .quo=>if b=0 then none else some (.int k (k.wrap (a.tdiv b)))
   | .rem=>if b=0 then none else some (.int k (a.tmod b))
   | .eql=>some (.bool (a == b))
   | .neq=>some (.bool (a != b))
   | .lss=>some (.bool (a<b))
   | .leq=>some (.bool (a<=b))
   | .gtr=>some (.bool (a > b))
   | .geq=>some (.bool (a ≥ b))
   | _=>none
  else none
 | .str a,.str b=>
  match op with
  | .add=>if a.length+b.length<4611686018427387904 then some (.str (a++b))else none
  | .eql=>some (.bool (a == b))
  | .neq=>some (.bool (!(a == b)))
  | .lss=>some (.bool (Op.bytesLess a b))
  | .leq=>some (.bool (Op.bytesLess a b ||(a == b)))
  | .gtr=>some (.bool (!(Op.bytesLess a b ||(a == b))))
  | .geq=>some (.bool (!Op.bytesLess a b))
  | _=>none
 | .bool a,.bool b=>
  match tk,op with
  | .bool,.eql=>some (.bool (a == b))
  | .bool,.neq=>some (.bool (!(a == b)))
  | _,_=>none
 | .nilp,.nilp=>match tk,op with |.ptr,.eql=>some (.bool true) |.ptr,.neq=>some (.bool false) |_,_=>none
 | .nilp,.ptr .. |.ptr ..,.nilp |.nilp,.ref _ |.ref _,.nilp=>match tk,op with |.ptr,.eql=>some (.bool false) |.ptr,.neq=>some (.bool true) |_,_=>none
 | .agg [.int k a,.int l b],.agg [.int k' a',.int l' b']=>if k=k'/\l=l' then match tk,op with |.two,.eql=>some (.bool (a == a' && b == b')) |.two,.neq=>some (.bool (!(a == a' && b == b'))) |_,_=>none else none
 | _,_=>none
def Jhk(x:AV)(lo hi:Option Int):Option AV:=
 match x with
 | .str s=>
  if 0<=lo.getD 0/\lo.getD 0<=hi.getD s.length/\hi.getD s.length<=s.length then
   some (.str ((s.drop (lo.getD 0).toNat).take ((hi.getD s.length).toNat-(lo.getD 0).toNat)))else none
 | _=>none
def Jan(sz:Nat)(x:AV)(lo hi:Option Int):Option AV:=
 match x with
 | .list sz' tag rows=>
  if 0<=lo.getD 0/\lo.getD 0<=hi.getD rows.length/\hi.getD rows.length<=rows.length/\(sz'=sz\/rows=[])then
   some (.list sz' (if hi.getD rows.length=rows.length then tag else .dead) ((rows.drop (lo.getD 0).toNat).take ((hi.getD rows.length).toNat-(lo.getD 0).toNat)))else none
 | _=>none
def overlay(cs:List AV)(off:Nat)(vs:List AV):List AV:=cs.take off++vs++cs.drop (off+vs.length)
def Jcm(e:V8):List (Nat×Nat×Opd)->List AV->Option (List AV)
 | [],cs=>some cs
 |(off,sz,x)::ps,cs=>match x.val e with
  | some v=>if v.cells.length=sz/\off+sz<=cs.length/\v.okv=true then Jcm e ps (overlay cs off v.cells)else none
  | none=>none
def Vn(es:List (Jk×AV))(k:Jk):Option AV:=
 match es with
 | []=>none
 |(k',v)::es=>if k'=k then some v else Vn es k
inductive QOp where
 | mov (x:Opd)
 | pick (c a b:Opd)
 | alloc (j:Nat) (zs:List AV)
 | build (zs:List AV) (JgF:List (Nat×Nat×Opd))
 | mkList (sz:Nat) (xs:List Opd)
 | load (k:Option Nat) (a:Opd)
 | nilCheck (x:Opd)
 | bin (tk:TK) (op:BinOp) (x y:Opd)
 | unot (x:Opd)
 | uneg (x:Opd)
 | conv (k:IntKind) (x:Opd)
 | convS (x:Opd)
 | mkIface (t:Nat) (x:Opd)
 | mkFunc (f:Nat) (first captured:List Opd)
 | slice (sz:Nat) (x:Opd) (lo hi:Option Opd)
 | sliceS (x:Opd) (lo hi:Option Opd)
 | fieldAddr (off:Nat) (x:Opd)
 | field (off:Nat) (k:Option Nat) (x:Opd)
 | indexAddr (sz:Nat) (x i:Opd)
 | index (x i:Opd)
 | lookup (zero:AV) (ok:Bool) (m k:Opd)
 | tassert (t:Nat) (zero:AV) (x:Opd)
 | extract (x:Opd) (i:Nat)
 | len (x:Opd)
 | lenM (x:Opd)
 | lenS (x:Opd)
 | min2 (x y:Opd)
inductive LOp where
 | store (k:Nat) (a x:Opd)
 | box (x:Opd)
 | mkMap
 | mkSlice (sz:Nat) (by_:Nat) (zs:List AV) (l c:Opd)
 | mkArr (sz:Nat) (xs:List Opd)
 | mapUpd (m k v:Opd)
 | append (sz by_:Nat) (a b:Opd)
 | append1 (sz by_:Nat) (a y i x:Opd) (d j9 j10:Nat)
 | call (f:Opd) (args:List Opd)
 | panic (x:Opd)
inductive IOp where
 | q (o:QOp)
 | l (o:LOp) (re:List Nat)
structure Item where
 ix:Nat
 dst:Option Nat
 guard:Option (Nat×Bool)
 op:IOp
def Jb8(x:Option Opd)(e:V8):Option (Option Int):=
 match x with
 | none=>some none
 | some x=>match x.val e with
  | some v=>(JSP v).map some
  | none=>none
def Yx(sz:Nat):List AV->Option (List (List AV))
 | []=>some []
 | v::vs=>if v.cells.length=sz/\J7 v=true/\v.okv=true then(Yx sz vs).map (Jh v.cells::·)else none
def Jbw(sz:Nat):List AV->Option (List AV)
 | []=>some []
 | v::vs=>if v.cells.length=sz/\v.okv=true then(Jbw sz vs).map (v.cells++·)else none
def QY(o:QOp)(e:V8)(H:List Blk)(base:Nat):Option AV:=
 match o with
 | .mov x=>x.val e
 | .pick c a b=>match c.val e with
  | some (.bool true)=>a.val e
  | some (.bool false)=>b.val e
  | _=>none
 | .alloc j zs=>match H[base+j]? with
  | some (.cells cs)=>if AV.beqL cs zs then some (.ptr (base+j) 0)else none
  | _=>none
 | .build zs JgF=>(Jcm e JgF zs).map .agg
 | .mkList sz xs=>match X9 xs e with
  | some vs=>(Yx sz vs).map (.list sz .full)
  | none=>none
 | .load k a=>match a.val e with
  | some v=>J9 k v H
  | none=>none
 | .nilCheck x=>match x.val e with
  | some (.ptr n o)=>some (.ptr n o)
  | some (.ref cs)=>some (.ref cs)
  | _=>none
 | .bin tk op x y=>match x.val e,y.val e with
  | some a,some b=>Jet tk op a b
  | _,_=>none
 | .unot x=>match x.val e with
  | some (.bool b)=>some (.bool (!b))
  | _=>none
 | .uneg x=>match x.val e with
  | some (.int k n)=>some (.int k (k.wrap (0-n)))
  | _=>none
 | .conv k x=>match x.val e with
  | some (.int _ n)=>some (.int k (k.wrap n))
  | _=>none
 | .convS x=>match x.val e with
  | some (.str s)=>some (.str s)
  | _=>none
 | .mkIface t x=>(x.val e).map (.iface t)
 | .mkFunc f first cap=>match X9 first e,X9 cap e with
  | some a,some b=>some (.func f a b)
  | _,_=>none
 | .slice sz x lo hi=>match x.val e,Jb8 lo e,Jb8 hi e with
  | some v,some l,some h=>Jan sz v l h
  | _,_,_=>none
 | .sliceS x lo hi=>match x.val e,Jb8 lo e,Jb8 hi e with
  | some v,some l,some h=>Jhk v l h
  | _,_,_=>none
 | .fieldAddr off x=>match x.val e with
  | some (.ptr n o)=>some (.ptr n (o+off))
  | some (.ref cs)=>if off<=cs.length then some (.ref (cs.drop off))else none
  | _=>none
 | .field off k x=>match x.val e with
  | some (.agg cs)=>match k with
   | none=>cs[off]?
   | some m=>if off+m<=cs.length then some (.agg ((cs.drop off).take m))else none
  | _=>none
 | .indexAddr sz x i=>match x.val e,i.val e with
  | some (.list sz' _ rows),some (.int _ n)=>
   if 0<=n/\sz'=sz then(rows[n.toNat]?).map .ref else none
  | some (.arr m off sz' len),some (.int _ n)=>
   if 0<=n/\n<len/\sz'=sz then some (.ptr m (off+n.toNat*sz))else none
  | _,_=>none
 | .index x i=>match x.val e,i.val e with
  | some (.str s),some (.int _ n)=>if 0<=n then(s[n.toNat]?).map λb=>.int .u8 b.toNat else none
  | _,_=>none
 | .lookup zero ok m k=>match m.val e,k.val e with
  | some (.map n),some (.str s)=>match H[n]? with
   | some (.map es)=>match Vn es s with
    | some v=>some (if ok then .tup [v,.bool true] else v)
    | none=>some (if ok then .tup [zero,.bool false] else zero)
   | _=>none
  | some .nilm,some (.str _)=>some (if ok then .tup [zero,.bool false] else zero)
  | _,_=>none
 | .tassert t zero x=>match x.val e with
  | some (.iface t' v)=>some (if t'=t then .tup [v,.bool true] else .tup [zero,.bool false])
  | some .nili=>some (.tup [zero,.bool false])
  | _=>none
 | .extract x i=>match x.val e with
  | some (.tup vs)=>vs[i]?
  | _=>none
 | .lenS x=>match x.val e with
  | some (.str s)=>some (i64 s.length)
  | _=>none
 | .lenM x=>match x.val e with
  | some (.map n)=>match H[n]? with
   | some (.map es)=>some (i64 es.length)
   | _=>none
  | some .nilm=>some (i64 0)
  | _=>none
 | .min2 x y=>match x.val e,y.val e with
  | some (.int .i64 a),some (.int .i64 b)=>some (.int .i64 (if b<a then b else a))
  | _,_=>none
 | .len x=>match x.val e with
  | some (.list _ _ rows)=>some (i64 rows.length)
  | some (.arr _ _ _ len)=>some (i64 len)
  | _=>none
inductive Res where
 | ret (v:AV)
 | panic (v:AV)
 deriving Inhabited
abbrev Ky:=Nat->List AV->St->Option (Res×St)
def ZM(es:List (Jk×AV))(k:Jk)(v:AV):List (Jk×AV):=
 match es with
 | []=>[(k,v)]
 |(k',v')::es=>if k'=k then(k',v)::es else(k',v')::ZM es k v
def Ji:Nat:=17179869184
def QK(sz by_:Nat)(a b:AV)(S:St):Option (AV×St):=
 match a,b with
 | .list sz0 tag rows,.list szb _ rowsb=>
  if rowsb=[] then some (.list sz0 tag rows,S)else
  if szb=sz/\(rows=[]\/sz0=sz)/\(rows.length+rowsb.length)*by_<=Ji/\rows.length+rowsb.length<=Ji/\0<sz then
   match tag with
   | .full=>some (.list sz (.row S.rows.length (rows.length+rowsb.length)) (rows++rowsb),{S with rows:=S.rows++[rows.length+rowsb.length]})
   | .row r en=>if sz0=sz/\S.rows[r]? = some en then
     some (.list sz (.row r (en+rowsb.length)) (rows++rowsb),{S with rows:=S.rows.set r (en+rowsb.length)})else none
   | .dead=>none
   | .still=>none
  else none
 | _,_=>none
def XN(b0:Nat)(cl:Ky)(o:LOp)(e:V8)(S:St):Option (Res×St):=
 match o with
 | .store k a x=>match a.val e,x.val e with
  | some (.ptr n off),some v=>match S.heap[n]? with
   | some (.cells cs)=>
    if v.cells.length=k/\v.okv=true/\off+k<=cs.length/\(b0<=n\/below (n+1) v=true)then
     some (.ret .undef,{S with heap:=S.heap.set n (.cells (overlay cs off v.cells))})else none
   | _=>none
  | _,_=>none
 | .box x=>match x.val e with
  | some v=>if v.okv=true then some (.ret (.ptr S.heap.length 0),{S with heap:=S.heap++[.cells v.cells]})else none
  | none=>none
 | .mkMap=>some (.ret (.map S.heap.length),{S with heap:=S.heap++[.map []]})
 | .mkSlice sz by_ zs l c=>match l.val e,c.val e with
  | some (.int .i64 n),some (.int .i64 m)=>
   if n=m/\0<=n/\n.toNat*by_<=Ji/\n.toNat<=Ji/\zs.length=sz then
    some (.ret (.arr S.heap.length 0 sz n.toNat),{S with heap:=S.heap++[.cells (List.replicate n.toNat zs).flatten]})else none
  | _,_=>none
 | .mkArr sz xs=>match X9 xs e with
  | some vs=>match Jbw sz vs with
   | some cs=>some (.ret (.arr S.heap.length 0 sz vs.length),{S with heap:=S.heap++[.cells cs]})
   | none=>none
  | none=>none
 | .mapUpd m k x=>match m.val e,k.val e,x.val e with
  | some (.map n),some (.str s),some v=>match S.heap[n]? with
   | some (.map es)=>if b0<=n\/below (n+1) v=true then some (.ret .undef,{S with heap:=S.heap.set n (.map (ZM es s v))})else none
   | _=>none
  | _,_,_=>none
 | .append sz by_ a b=>match a.val e,b.val e with
  | some x,some y=>match QK sz by_ x y S with
   | some (v,S')=>some (.ret v,S')
   | none=>none
  | _,_=>none
 | .append1 sz by_ a y i x d _ _=>match a.val e,y.val e,i.val e,x.val e with
  | some (.list s0 tag rows),some (.list szb _ rowsb),some (.int .i64 n),some v=>
   if n=rows.length/\szb=sz/\rowsb.length=1/\v.cells.length=sz/\J7 v=true/\v.okv=true/\e d=none then
    match QK sz by_ (.list s0 tag rows) (.list sz .full [Jh v.cells]) S with
    | some (v',S')=>some (.ret v',S')
    | none=>none
   else none
  | _,_,_,_=>none
 | .call f args=>match f.val e,X9 args e with
  | some (.func g first cap),some vs=>cl g (first++vs++cap) S
  | _,_=>none
 | .panic x=>match x.val e with
  | some (.iface t v)=>some (.panic (.iface t v),S)
  | _=>none
def wanted(g:Option (Nat×Bool))(e:V8):Option Bool:=
 match g with
 | none=>some true
 | some (s,want)=>match e s with
  | some (.bool b)=>some (b == want)
  | some .undef=>some false
  | _=>none
def KD(e:KC)(d:Option Nat)(v:AV):KC:=
 match d with
 | some d=>(d,v)::e
 | none=>e
def J8(prev:List Item)(re:List Nat)(e:KC)(H:List Blk)(base:Nat):Bool:=
 prev.all λit=>!re.contains it.ix || match it.op,it.dst with
  | .q o,some d=>match wanted it.guard (Jj e)with
   | some true=>match QY o (Jj e) H base,Jj e d with
    | some a,some b=>AV.beq a b
    | _,_=>false
   | some false=>true
   | none=>false
  | _,_=>false
def YR(b0:Nat)(cl:Ky)(base:Nat)(it:Item)(e:KC)(S:St):Option (Option AV×KC×St):=
 match wanted it.guard (Jj e)with
 | none=>none
 | some false=>some (none,KD e it.dst .undef,S)
 | some true=>match it.op with
  | .q o=>match QY o (Jj e) S.heap base with
   | some v=>some (none,KD e it.dst v,S)
   | none=>none
  | .l o _=>match XN b0 cl o (Jj e) S with
   | some (.ret v,S')=>some (none,KD e it.dst v,S')
   | some (.panic v,S')=>some (some v,e,S')
   | none=>none
def Jto:IOp->List Nat
 | .q _=>[]
 | .l _ re=>re
def run(b0:Nat)(cl:Ky)(base:Nat):List Item->List Item->KC->St->Option (Option AV×KC×St)
 | _,[],e,S=>some (none,e,S)
 | prev,it::rest,e,S=>match YR b0 cl base it e S with
  | none=>none
  | some (some v,e',S')=>some (some v,e',S')
  | some (none,e',S')=>
   if J8 prev (Jto it.op) e' S'.heap base then run b0 cl base (it::prev) rest e' S' else none
def keep(l:List Nat)(e:KC):KC:=l.filterMap λt=>(Jj e t).map λv=>(t,v)
inductive IC where
 | skip
 | region (allocs:List (List AV)) (items:List Item) (kp:List Nat)
 | seq (a b:IC)
 | cond (c:Opd) (a b:IC)
 | block (id:Nat) (b:IC)
 | loop (kp:List Nat) (b:IC)
 | exit (id:Nat)
 | ret
 | stuck
inductive Ex where
 | normal |exit (id:Nat) |ret |panic (v:AV)
 deriving Inhabited
def JdU(body:KC->St->Option (Ex×KC×St))(kp:List Nat):Nat->KC->St->Option (Ex×KC×St)
 | 0,_,_=>none
 | n+1,e,S=>match body (keep kp e) S with
  | some (.normal,e',S')=>JdU body kp n e' S'
  | r=>r
def Qr(b0:Nat)(cl:Ky)(n:Nat):IC->KC->St->Option (Ex×KC×St)
 | .skip,e,S=>some (.normal,e,S)
 | .region allocs items kp,e,S=>
  match run b0 cl S.heap.length [] items e {S with heap:=S.heap++allocs.map .cells} with
  | some (none,e',S')=>some (.normal,keep kp e',S')
  | some (some v,e',S')=>some (.panic v,e',S')
  | none=>none
 | .seq a b,e,S=>match Qr b0 cl n a e S with
  | some (.normal,e',S')=>Qr b0 cl n b e' S'
  | r=>r
 | .cond c a b,e,S=>match c.val (Jj e)with
  | some (.bool true)=>Qr b0 cl n a e S
  | some (.bool false)=>Qr b0 cl n b e S
  | _=>none
 | .block id b,e,S=>match Qr b0 cl n b e S with
  | some (.exit id',e',S')=>if id'=id then some (.normal,e',S')else some (.exit id',e',S')
  | r=>r
 | .loop kp b,e,S=>JdU (Qr b0 cl n b) kp n e S
 | .exit id,e,S=>some (.exit id,e,S)
 | .ret,e,S=>some (.ret,e,S)
 | .stuck,_,_=>none
inductive RVar where
 | tmp (t:Nat)
 | cell (t:Nat) (k:Option Nat)
structure IFn where
 nargs:Nat
 body:IC
 res:List RVar
def QT:List RVar->KC->List Blk->Option (List AV)
 | [],_,_=>some []
 | .tmp t::rs,e,H=>match Jj e t,QT rs e H with
  | some v,some vs=>some (v::vs)
  | _,_=>none
 | .cell t k::rs,e,H=>match Jj e t,QT rs e H with
  | some (.ptr n off),some vs=>match J9 k (.ptr n off) H with
   | some v=>some (v::vs)
   | none=>none
  | _,_=>none
def X2:List AV->AV
 | [v]=>v
 | vs=>.tup vs
def Y4(n0:Nat)(v:AV)(S:St):AV×St:=
 if below n0 v then(v,{S with heap:=S.heap.take n0})else
 if below n0 (Jcl n0 S.heap v)then(Jcl n0 S.heap v,{S with heap:=S.heap.take n0})else(v,S)
def Ys(vs:List AV):KC:=vs.zipIdx.map λ(v,i)=>(i,v)
def enter(cl:Ky)(n:Nat)(fn:IFn)(vs:List AV)(S:St):Option (Res×St):=
 if vs.length=fn.nargs then
  match Qr S.heap.length cl n fn.body (Ys vs) S with
  | some (.normal,e,S') |some (.ret,e,S')=>match QT fn.res e S'.heap with
   | some rs=>some (.ret (Y4 S.heap.length (X2 rs) S').1,(Y4 S.heap.length (X2 rs) S').2)
   | none=>none
  | some (.panic v,_,S')=>if below S.heap.length v then some (.panic v,{S' with heap:=S'.heap.take S.heap.length})else none
  | _=>none
 else none
abbrev Jz:=Nat->Option (Ky->List AV->St->Option (Res×St))
def QF(prims:Jz)(F:Nat->Option IFn):Nat->Ky
 | 0=>λ_ _ _=>none
 | n+1=>λf vs S=>match prims f with
  | some p=>p (QF prims F n) vs S
  | none=>match F f with
   | some fn=>enter (QF prims F n) n fn vs S
   | none=>none
structure Ghost where
 m:Nat->Option Nat
 g:Nat->Option (List Value)
 a:Nat->Option (Nat×Nat×Nat×Nat)
def Ghost.fix(K:Ghost)(B o:Nat)(vs:List Value):Prop:=∃ l,K.g B=some l/\(l.drop o).take vs.length=vs
def Ghost.szOk(K:Ghost)(sz B:Nat):Prop:=∀ x,K.a B=some x->x.2.2.1=sz
def Ghost.tagIn(K:Ghost)(sz:Nat)(tag:Tag)(len cap B o:Nat):Prop:=
 match tag with
 | .full=>cap=len
 | .row b e=>(∃ x,K.a B=some x/\x.1=b)/\(len<cap->∃ E size l,K.a B=some (b,E,sz,size)/\K.g B=some l/\e<=E/\l.length=o+len*sz+(E-e)*sz/\o+cap*sz<=size)
 | .dead=>True
 | .still=>K.a B=none
def Ghost.tagOk(K:Ghost)(sz:Nat)(tag:Tag)(len cap B o:Nat):Prop:=K.szOk sz B/\K.tagIn sz tag len cap B o
mutual
def Rep(K:Ghost):AV->Value->Prop
 | .bool b,v=>v=.bool b
 | .int k n,v=>v=.int k n
 | .str s,v=>v=.string ⟨s.toArray⟩
 | .nilp,v=>v=.pointer none
 | .ptr n off,v=>∃ B,K.m n=some B/\v=.pointer (some ⟨B,off,none⟩)
 | .ref cs,v=>∃ B o vs,v=.pointer (some ⟨B,o,none⟩)/\K.fix B o vs/\RepL K cs vs
 | .list sz tag rows,v=>∃ base cap,v=.slice base rows.length cap/\rows.length<=cap/\(∀ r∈rows,r.length=sz/\Kl r=true) /\
   ((base=none/\rows=[]/\cap=0)\/∃ B o vs,base=some ⟨B,o,none⟩/\K.fix B o vs/\RepLL K rows vs/\K.tagOk sz tag rows.length cap B o)
 | .arr n off _sz len,v=>∃ B cap,K.m n=some B/\len<=cap/\v=.slice (some ⟨B,off,none⟩) len cap
 | .nilm,v=>v=.map none
 | .map n,v=>∃ B,K.m n=some B/\v=.map (some B)
 | .nilf,v=>v=.nilFunc
 | .func f first cap,v=>∃ us vs,v=.func (.func f) us.toArray vs.toArray/\RepT K first us/\RepT K cap vs
 | .nili,v=>v=.nilIface
 | .iface t x,v=>∃ u,v=.iface t u/\Rep K x u
 | .agg cs,v=>∃ vs,v=.agg vs.toArray/\RepL K cs vs
 | .tup cs,v=>∃ vs,v=.tuple vs.toArray/\RepT K cs vs
 | .undef,v=>v=.tuple #[]
def RepL(K:Ghost):List AV->List Value->Prop
 | [],vs=>vs=[]
 | a::as,vs=>∃ v vs',vs=v::vs'/\a.one=true/\Rep K a v/\RepL K as vs'
def RepT(K:Ghost):List AV->List Value->Prop
 | [],vs=>vs=[]
 | a::as,vs=>∃ v vs',vs=v::vs'/\Rep K a v/\RepT K as vs'
def RepLL(K:Ghost):List (List AV)->List Value->Prop
 | [],vs=>vs=[]
 | r::rs,vs=>∃ u us,vs=u++us/\RepL K r u/\RepLL K rs us
end
structure Ext(K K':Ghost):Prop where
 m:∀ n B,K.m n=some B->K'.m n=some B
 g:∀ B l,K.g B=some l->∃ x,K'.g B=some (l++x)
 a:∀ B b E sz size,K.a B=some (b,E,sz,size)->∃ E',K'.a B=some (b,E',sz,size)/\E<=E' /\
  ∀ l l',K.g B=some l->K'.g B=some l'->l'.length=l.length+(E'-E)*sz
 n:∀ B l,K.g B=some l->K.a B=none->K'.a B=none
theorem Ext.refl(K:Ghost):Ext K K:=
 ⟨λ_ _ h=>h,λ_ l h=>⟨[],by simpa using h⟩,λ_ _ E _ _ h=>⟨E,h,Ao _,λl l' h1 h2=>by rw[h1]at h2;cases h2;simp⟩,λ_ _ _ h=>h⟩
theorem Ext.trans{K K' K'':Ghost}(h:Ext K K')(h':Ext K' K''):Ext K K'':=by
 refine⟨λn B hm=>h'.m n B (h.m n B hm),λB l hg=>?_,λB b E sz size ha=>?_,λB l hg ha=>(h.g B l hg).elim λx hx=>h'.n B _ hx (h.n B l hg ha)⟩
 ·obtain⟨x,hx⟩:=h.g B l hg;obtain⟨y,hy⟩:=h'.g B _ hx;exact⟨x++y,by rw[hy,BG]⟩
 ·obtain⟨E1,ha1,hle1,hl1⟩:=h.a B b E sz size ha;obtain⟨E2,ha2,hle2,hl2⟩:=h'.a B b E1 sz size ha1;refine⟨E2,ha2,BX hle1 hle2,λl l' hg hg'=>?_⟩;obtain⟨x,hx⟩:=h.g B l hg;have e1:=hl1 l _ hg hx;have e2:=hl2 _ l' hx hg';have:(E2-E)*sz=(E1-E)*sz+(E2-E1)*sz:=by rw[<- Bs];congr 1;omega
  omega
theorem Ext.fix{K K':Ghost}(h:Ext K K'){B o:Nat}{vs:List Value}(hf:K.fix B o vs):K'.fix B o vs:=by
 obtain⟨l,hg,hl⟩:=hf;obtain⟨x,hx⟩:=h.g B l hg;refine⟨l++x,hx,?_⟩;by_cases h0:vs=[]
 ·subst h0;simp
 have hlen:vs.length<=l.length-o:=by have:=congrArg List.length hl;simp at this;omega
 have hpos:0<vs.length:=Cg.2 h0;rw[CN O,BM AR];exact hl
theorem Ext.szOk{K K':Ghost}(h:Ext K K'){sz B o:Nat}{vs:List Value}(hf:K.fix B o vs)(hs:K.szOk sz B):K'.szOk sz B:=by
 intro x hx;obtain⟨l,hg,-⟩:=hf;cases ha:K.a B with
 | none=>rw[h.n B l hg ha]at hx;cases hx
 | some y=>obtain⟨b,E,sz1,size⟩:=y;obtain⟨E',ha',-⟩:=h.a B b E sz1 size ha;rw[ha']at hx;cases hx;exact hs (b,E,sz1,size) ha
theorem Ext.tagOk{K K':Ghost}(h:Ext K K'){sz:Nat}{tag:Tag}{len cap B o:Nat}{o':Nat}{vs:List Value}(hf:K.fix B o' vs)(ht:K.tagOk sz tag len cap B o):K'.tagOk sz tag len cap B o:=by
 obtain⟨hs,ht⟩:=ht;refine⟨h.szOk hf hs,?_⟩;cases tag with
 | full=>exact ht
 | dead=>trivial
 | still=>obtain⟨l,hl,-⟩:=hf;exact h.n B l hl ht
 | row b e=>
  refine⟨?_,λhlt=>?_⟩
  ·obtain⟨⟨b1,E,sz1,size⟩,ha,hb⟩:=ht.1;obtain⟨E',ha',_⟩:=h.a B b1 E sz1 size ha;exact⟨_,ha',hb⟩
  obtain⟨E,size,l,ha,hg,hle,hl,hs⟩:=ht.2 hlt;obtain⟨E',ha',hle',hl'⟩:=h.a B b E sz size ha;obtain⟨x,hx⟩:=h.g B l hg;refine⟨E',size,l++x,ha',hx,BX hle hle',?_,hs⟩;have e1:=hl' l _ hg hx;have:(E'-e)*sz=(E-e)*sz+(E'-E)*sz:=by rw[<- Bs];congr 1;omega
  omega
mutual
theorem Rep.ext{K K':Ghost}(h:Ext K K'):∀(a:AV) (v:Value),Rep K a v->Rep K' a v
 | .bool _,_,r=>by simpa only[Rep] using r
 | .int _ _,_,r=>by simpa only[Rep] using r
 | .str _,_,r=>by simpa only[Rep] using r
 | .nilp,_,r=>by simpa only[Rep] using r
 | .nilm,_,r=>by simpa only[Rep] using r
 | .nilf,_,r=>by simpa only[Rep] using r
 | .nili,_,r=>by simpa only[Rep] using r
 | .undef,_,r=>by simpa only[Rep] using r
 | .ptr n off,v,r=>by simp only[Rep]at r |-;obtain⟨B,hm,hv⟩:=r;exact⟨B,h.m _ _ hm,hv⟩
 | .map n,v,r=>by simp only[Rep]at r |-;obtain⟨B,hm,hv⟩:=r;exact⟨B,h.m _ _ hm,hv⟩
 | .arr n off sz len,v,r=>by simp only[Rep]at r |-;obtain⟨B,cap,hm,hlc,hv⟩:=r;exact⟨B,cap,h.m _ _ hm,hlc,hv⟩
 | .ref cs,v,r=>by simp only[Rep]at r |-;obtain⟨B,o,vs,hv,hf,hr⟩:=r;exact⟨B,o,vs,hv,h.fix hf,RepL.ext h cs vs hr⟩
 | .list sz tag rows,v,r=>by simp only[Rep]at r |-;obtain⟨base,cap,hv,hc,hs,hr⟩:=r;refine⟨base,cap,hv,hc,hs,hr.imp id ?_⟩;rintro⟨B,o,vs,hb,hf,hr,ht⟩;exact⟨B,o,vs,hb,h.fix hf,RepLL.ext h rows vs hr,h.tagOk hf ht⟩
 | .func f a b,v,r=>by simp only[Rep]at r |-;obtain⟨us,vs,hv,h1,h2⟩:=r;exact⟨us,vs,hv,RepT.ext h a us h1,RepT.ext h b vs h2⟩
 | .iface t x,v,r=>by simp only[Rep]at r |-;obtain⟨u,hv,h1⟩:=r;exact⟨u,hv,Rep.ext h x u h1⟩
 | .agg cs,v,r=>by simp only[Rep]at r |-;obtain⟨vs,hv,h1⟩:=r;exact⟨vs,hv,RepL.ext h cs vs h1⟩
 | .tup cs,v,r=>by simp only[Rep]at r |-;obtain⟨vs,hv,h1⟩:=r;exact⟨vs,hv,RepT.ext h cs vs h1⟩
theorem RepL.ext{K K':Ghost}(h:Ext K K'):∀(a:List AV) (v:List Value),RepL K a v->RepL K' a v
 | [],_,r=>by simpa only[RepL] using r
 | a::as,v,r=>by simp only[RepL]at r |-;obtain⟨u,us,hv,h1,h2,h3⟩:=r;exact⟨u,us,hv,h1,Rep.ext h a u h2,RepL.ext h as us h3⟩
theorem RepT.ext{K K':Ghost}(h:Ext K K'):∀(a:List AV) (v:List Value),RepT K a v->RepT K' a v
 | [],_,r=>by simpa only[RepT] using r
 | a::as,v,r=>by simp only[RepT]at r |-;obtain⟨u,us,hv,h2,h3⟩:=r;exact⟨u,us,hv,Rep.ext h a u h2,RepT.ext h as us h3⟩
theorem RepLL.ext{K K':Ghost}(h:Ext K K'):∀(a:List (List AV)) (v:List Value),RepLL K a v->RepLL K' a v
 | [],_,r=>by simpa only[RepLL] using r
 | a::as,v,r=>by simp only[RepLL]at r |-;obtain⟨u,us,hv,h2,h3⟩:=r;exact⟨u,us,hv,RepL.ext h a u h2,RepLL.ext h as us h3⟩
end
theorem RepL.length{K:Ghost}:∀{a:List AV} {v:List Value},RepL K a v->v.length=a.length
 | [],_,r=>by simp only[RepL]at r;simp[r]
 | a::as,v,r=>by simp only[RepL]at r;obtain⟨u,us,rfl,_,_,h⟩:=r;simp[RepL.length h]
theorem RepT.length{K:Ghost}:∀{a:List AV} {v:List Value},RepT K a v->v.length=a.length
 | [],_,r=>by simp only[RepT]at r;simp[r]
 | a::as,v,r=>by simp only[RepT]at r;obtain⟨u,us,rfl,_,h⟩:=r;simp[RepT.length h]
theorem RepL.one{K:Ghost}:∀{a:List AV} {v:List Value},RepL K a v->∀ x∈a,x.one=true
 | [],_,_,x,hx=>by cases hx
 | a::as,v,r,x,hx=>by
  simp only[RepL]at r;obtain⟨u,us,rfl,h1,_,h⟩:=r;rcases AS.1 hx with rfl |hx
  ·exact h1
  ·exact RepL.one h x hx
theorem RepL.append{K:Ghost}:∀{a b:List AV} {v u:List Value},RepL K a v->RepL K b u->RepL K (a++b) (v++u)
 | [],_,_,_,r,h=>by simp only[RepL]at r;subst r;exact h
 | a::as,b,v,u,r,h=>by simp only[RepL]at r;obtain⟨x,xs,rfl,h1,h2,h3⟩:=r;simp only[Aw,RepL];exact⟨x,_,rfl,h1,h2,RepL.append h3 h⟩
theorem RepL.drop{K:Ghost}:∀(n:Nat) {a:List AV} {v:List Value},RepL K a v->RepL K (a.drop n) (v.drop n)
 | 0,_,_,r=>by simpa using r
 | n+1,[],_,r=>by simp only[RepL]at r;subst r;simp[RepL]
 | n+1,a::as,v,r=>by simp only[RepL]at r;obtain⟨x,xs,rfl,h1,h2,h3⟩:=r;simpa using RepL.drop n h3
theorem RepL.take{K:Ghost}:∀(n:Nat) {a:List AV} {v:List Value},RepL K a v->RepL K (a.take n) (v.take n)
 | 0,_,_,r=>by simp[RepL]
 | n+1,[],_,r=>by simp only[RepL]at r;subst r;simp[RepL]
 | n+1,a::as,v,r=>by simp only[RepL]at r;obtain⟨x,xs,rfl,h1,h2,h3⟩:=r;simp only[Ay,RepL];exact⟨x,_,rfl,h1,h2,RepL.take n h3⟩
theorem RepL.get{K:Ghost}:∀{a:List AV} {v:List Value},RepL K a v->∀(i:Nat) (x:AV),a[i]? = some x->∃ u,v[i]? = some u/\x.one=true/\Rep K x u
 | [],_,_,i,x,hx=>by simp at hx
 | a::as,v,r,i,x,hx=>by
  simp only[RepL]at r;obtain⟨u,us,rfl,h1,h2,h3⟩:=r;cases i with
  | zero=>simp at hx;subst hx;exact⟨u,Ag,h1,h2⟩
  | succ i=>simpa using RepL.get h3 i x (by simpa using hx)
theorem RepT.get{K:Ghost}:∀{a:List AV} {v:List Value},RepT K a v->∀(i:Nat) (x:AV),a[i]? = some x->∃ u,v[i]? = some u/\Rep K x u
 | [],_,_,i,x,hx=>by simp at hx
 | a::as,v,r,i,x,hx=>by
  simp only[RepT]at r;obtain⟨u,us,rfl,h2,h3⟩:=r;cases i with
  | zero=>simp at hx;subst hx;exact⟨u,Ag,h2⟩
  | succ i=>simpa using RepT.get h3 i x (by simpa using hx)
theorem RepT.append{K:Ghost}:∀{a b:List AV} {v u:List Value},RepT K a v->RepT K b u->RepT K (a++b) (v++u)
 | [],_,_,_,r,h=>by simp only[RepT]at r;subst r;exact h
 | a::as,b,v,u,r,h=>by simp only[RepT]at r;obtain⟨x,xs,rfl,h2,h3⟩:=r;simp only[Aw,RepT];exact⟨x,_,rfl,h2,RepT.append h3 h⟩
theorem RepLL.flat{K:Ghost}:∀{a:List (List AV)} {v:List Value},RepLL K a v↔RepL K a.flatten v
 | [],v=>by simp[RepLL,RepL]
 | a::as,v=>by
  simp only[RepLL,BF];constructor
  ·rintro⟨u,us,rfl,h1,h2⟩;exact h1.append (RepLL.flat.1 h2)
  ·intro h;refine⟨v.take a.length,v.drop a.length,Ag,?_,RepLL.flat.2 ?_⟩
   ·simpa using h.take a.length
   ·simpa using h.drop a.length
theorem Rep.oneCell{K:Ghost}{a:AV}{v:Value}(h1:a.one=true)(r:Rep K a v):v.oneCell'=true:=by
 cases a <;> simp[AV.one]at h1 <;> simp only[Rep]at r
 all_goals first
  |(subst r;rfl)
  |(obtain⟨_,_,rfl⟩:=r;rfl)
  |(obtain⟨_,_,_,rfl⟩:=r;rfl)
  |(obtain⟨_,_,_,_,rfl⟩:=r;rfl)
  |(obtain⟨_,_,_,rfl,_⟩:=r;rfl)
  |(obtain⟨_,_,rfl,_⟩:=r;rfl)
  |(obtain⟨_,rfl,_⟩:=r;rfl)
theorem RepL.oneCell{K:Ghost}:∀{a:List AV} {v:List Value},RepL K a v->∀ u∈v,u.oneCell'=true
 | [],_,r,u,hu=>by simp only[RepL]at r;subst r;cases hu
 | a::as,v,r,u,hu=>by
  simp only[RepL]at r;obtain⟨x,xs,rfl,h1,h2,h3⟩:=r;rcases AS.1 hu with rfl |hu
  ·exact h2.oneCell h1
  ·exact RepL.oneCell h3 u hu
theorem Rep.cells{K:Ghost}{a:AV}{v:Value}(ho:a.okv=true)(r:Rep K a v):RepL K a.cells v.cells.toList:=by
 cases a with
 | agg cs=>simp only[Rep]at r;obtain⟨vs,rfl,h⟩:=r;simpa [AV.cells,Value.cells] using h
 | tup _=>simp[AV.okv]at ho
 | undef=>simp[AV.okv]at ho
 | _=>have h1:=Rep.oneCell (a:=_) (by rfl) r;simp only[AV.cells,RepL];refine⟨v,[],?_,rfl,r,rfl⟩;cases v <;> simp[Value.oneCell',Value.cells]at h1 |-
def RepM(K:Ghost):List (Jk×AV)->List MapEntry->Prop
 | [],ms=>ms=[]
 |(k,a)::es,ms=>∃ m ms',ms=m::ms'/\m.key=.string ⟨k.toArray⟩/\Rep K a m.val/\RepM K es ms'
structure Rel(K:Ghost)(S:St)(w:World):Prop where
 dom:∀ n B,K.m n=some B->n<S.heap.length
 inj:∀ n n' B,K.m n=some B->K.m n'=some B->n=n'
 sep:∀ n B,K.m n=some B->K.g B=none
 cells:∀ n B cs,K.m n=some B->S.heap[n]? = some (.cells cs)->∃ vs t,w.heap[B]? = some (.cells vs t (0,0))/\RepL K cs vs.toList
 maps:∀ n B es,K.m n=some B->S.heap[n]? = some (.map es)->∃ ms ck,w.heap[B]? = some (.map ms ck)/\RepM K es ms.toList
 rows:∀ B l,K.g B=some l->∃ vs t,w.heap[B]? = some (.cells vs t (0,0))/\vs.toList.take l.length=l
 grow:∀ B b E sz size,K.a B=some (b,E,sz,size)->∃ l,K.g B=some l/\(∃ vs t,w.heap[B]? = some (.cells vs t (0,0))/\vs.size=size)/\∃ r,S.rows[b]? = some r/\E<=r
structure Step(K:Ghost)(X:Nat->Prop)(w:World)(K':Ghost)(w':World):Prop where
 ext:Ext K K'
 os:w'.os=w.os
 tape:w'.tape=w.tape
 output:w'.output=w.output
 size:w.heap.size<=w'.heap.size
 frame:∀ B,B<w.heap.size->(∀ n,K.m n≠some B)->K.g B=none->w'.heap[B]? = w.heap[B]?
 fresh:∀ B,B<w.heap.size->(∀ n,K.m n≠some B)->K.g B=none->(∀ n,K'.m n≠some B)/\K'.g B=none
 back:∀ n,X n->K.m n=none->K'.m n=none
 born:∀ B x,K'.a B=some x->(∃ y,K.a B=some y)\/w.heap.size<=B
theorem Step.refl(K:Ghost)(X:Nat->Prop)(w:World):Step K X w K w:=
 ⟨Ext.refl K,rfl,rfl,rfl,Ao _,λ_ _ _ _=>rfl,λ_ _ h1 h2=>⟨h1,h2⟩,λ_ _ h=>h,λ_ x h=>.inl ⟨x,h⟩⟩
theorem Step.trans{K K' K'':Ghost}{X Y:Nat->Prop}{w w' w'':World}(h:Step K X w K' w')(h':Step K' Y w' K'' w'')(hXY:∀ n,X n->Y n):Step K X w K'' w'':=by
 refine⟨h.ext.trans h'.ext,h'.os.trans h.os,h'.tape.trans h.tape,h'.output.trans h.output,BX h.size h'.size,?_,?_,?_,?_⟩
 ·intro B hB h1 h2;obtain⟨h3,h4⟩:=h.fresh B hB h1 h2;rw[h'.frame B (Bh hB h.size) h3 h4,h.frame B hB h1 h2]
 ·intro B hB h1 h2;obtain⟨h3,h4⟩:=h.fresh B hB h1 h2;exact h'.fresh B (Bh hB h.size) h3 h4
 ·exact λn hn h1=>h'.back n (hXY n hn) (h.back n hn h1)
 ·intro B x hx;rcases h'.born B x hx with⟨y,hy⟩ |hb
  ·exact h.born B y hy
  ·exact .inr (BX h.size hb)
theorem Step.mono{K K':Ghost}{X Y:Nat->Prop}{w w':World}(h:Step K X w K' w')(hXY:∀ n,Y n->X n):Step K Y w K' w':=
 ⟨h.ext,h.os,h.tape,h.output,h.size,h.frame,h.fresh,λn hn=>h.back n (hXY n hn),h.born⟩
def EnvRep(K:Ghost)(e:V8)(tmps:Array Value):Prop:=∀ t v,e t=some v->t<tmps.size/\Rep K v (tmps.getD t Go.undef)
theorem EnvRep.ext{K K':Ghost}{e:V8}{tmps:Array Value}(h:EnvRep K e tmps)(hx:Ext K K'):EnvRep K' e tmps:=
 λt v hv=>⟨(h t v hv).1,Rep.ext hx _ _ (h t v hv).2⟩
theorem EnvRep.put{K:Ghost}{e:KC}{a:Act}{v:AV}{u:Value}(h:EnvRep K (Jj e) a.tmps)(hr:Rep K v u)(d:Option Nat)(hd:∀ t,d=some t->t<a.tmps.size) :
  EnvRep K (Jj (KD e d v)) (a.put d u).tmps:=by
 cases d with
 | none=>exact h
 | some d=>
  intro t x hx;have hdl:=hd d rfl;simp only[KD,Jj]at hx;by_cases hdt:d=t
  ·subst hdt;simp at hx;subst hx;simp[Act.put,hdl];exact hr
  ·rw[if_neg hdt]at hx;have:=h t x hx;simp only[Act.put,Array.size_setIfInBounds];refine⟨this.1,?_⟩;have e1:(a.tmps.setIfInBounds d u).getD t Go.undef=a.tmps.getD t Go.undef:=by simp[BS hdt]
   rw[e1];exact this.2
def Jcn(k:Nat):Blk->Bool
 | .cells cs=>belowL k cs
 | .map es=>es.all λx=>below k x.2
def VL(k:Nat)(S:St):Prop:=∀ n b,n<k->S.heap[n]? = some b->Jcn k b=true
mutual
def ZY:AV->Value->Bool
 | .bool a,.bool b=>a == b
 | .int k a,.int l b=>k == l && a == b
 | .str s,.string b=>b.data.toList == s
 | .nilp,.pointer none=>true
 | .list 0 .full [],.slice none 0 0=>true
 | .nilm,.map none=>true
 | .nilf,.nilFunc=>true
 | .func f [] [],.func (.func g) a b=>f == g && a.size == 0 && b.size == 0
 | .nili,.nilIface=>true
 | .agg cs,.agg vs=>Jgj cs vs.toList
 | .undef,.tuple vs=>vs.size == 0
 | _,_=>false
def Jgj:List AV->List Value->Bool
 | [],[]=>true
 | a::as,v::vs=>a.one && ZY a v && Jgj as vs
 | _,_=>false
end
mutual
theorem Jc8(K:Ghost):∀(a:AV) (v:Value),ZY a v=true->Rep K a v
 | .bool a,v,h=>by cases v <;> simp[ZY]at h;simp[Rep,h]
 | .int k a,v,h=>by cases v <;> simp[ZY]at h;simp[Rep,h]
 | .str s,v,h=>by
  cases v <;> simp[ZY]at h
  rename_i b;simp only[Rep];subst h;rfl
 | .nilp,v,h=>by unfold ZY at h;split at h <;> simp_all[Rep]
 | .nilm,v,h=>by unfold ZY at h;split at h <;> simp_all[Rep]
 | .nilf,v,h=>by cases v <;> simp[ZY]at h;simp[Rep]
 | .nili,v,h=>by cases v <;> simp[ZY]at h;simp[Rep]
 | .undef,v,h=>by
  cases v <;> simp[ZY]at h
  simp[Rep,h]
 | .list sz tag rows,v,h=>by
  unfold ZY at h;split at h <;> simp_all[Rep]
  exact⟨none,0,⟨rfl,rfl⟩,.inl ⟨rfl,rfl⟩⟩
 | .func f a b,v,h=>by unfold ZY at h;split at h <;> simp_all[Rep,RepT]
 | .agg cs,v,h=>by
  cases v with
  | agg vs=>simp only[ZY]at h;simp only[Rep];exact⟨vs.toList,Ag,Jao K cs _ h⟩
  | _=>simp[ZY]at h
 | .ptr _ _,v,h=>by cases v <;> simp[ZY]at h
 | .ref _,v,h=>by cases v <;> simp[ZY]at h
 | .arr _ _ _ _,v,h=>by cases v <;> simp[ZY]at h
 | .map _,v,h=>by cases v <;> simp[ZY]at h
 | .iface _ _,v,h=>by cases v <;> simp[ZY]at h
 | .tup _,v,h=>by cases v <;> simp[ZY]at h
theorem Jao(K:Ghost):∀(a:List AV) (v:List Value),Jgj a v=true->RepL K a v
 | [],[],_=>by simp[RepL]
 | a::as,v::vs,h=>by simp only[Jgj,Ah]at h;simp only[RepL];exact⟨v,vs,rfl,h.1.1,Jc8 K a v h.1.2,Jao K as vs h.2⟩
 | [],_::_,h=>by simp[Jgj]at h
 | _::_,[],h=>by simp[Jgj]at h
end
def Vp:Opd->Operand->Bool
 | .tmp t,.tmp u=>t == u
 | .const a,.const v=>ZY a v
 | .const (.func f [] []),.func g=>f == g
 | _,_=>false
theorem JA{K:Ghost}{e:V8}{a:Act}(E:EnvRep K e a.tmps){x:Opd}{y:Operand}{v:AV}(h:Vp x y=true)(hv:x.val e=some v):Rep K v (a.eval y):=by
 unfold Vp at h;split at h
 ·simp only[beq_iff_eq]at h;subst h;exact(E _ _ hv).2
 ·simp only[Opd.val,V]at hv;subst hv;exact Jc8 K _ _ h
 ·simp only[beq_iff_eq]at h;subst h;simp only[Opd.val,V]at hv;subst hv;simp[Rep,Act.eval,RepT]
 ·simp at h
def Jgk:List Opd->List Operand->Bool
 | [],[]=>true
 | x::xs,y::ys=>Vp x y && Jgk xs ys
 | _,_=>false
theorem Jc9{K:Ghost}{e:V8}{a:Act}(E:EnvRep K e a.tmps):∀{xs:List Opd} {ys:List Operand} {vs:List AV},Jgk xs ys=true->X9 xs e=some vs->RepT K vs (ys.map a.eval)
 | [],[],vs,_,hv=>by simp only[X9,V]at hv;subst hv;simp[RepT]
 | x::xs,y::ys,vs,h,hv=>by
  simp only[Jgk,Ah]at h;simp only[X9]at hv;cases hx:x.val e with
  | none=>simp[hx]at hv
  | some v=>
   cases hxs:X9 xs e with
   | none=>simp[hx,hxs]at hv
   | some us=>simp only[hx,hxs,V]at hv;subst hv;simp only[Ap,RepT];exact⟨_,_,rfl,JA E h.1 hx,Jc9 E h.2 hxs⟩
 | [],_::_,_,h,_=>by simp[Jgk]at h
 | _::_,[],_,h,_=>by simp[Jgk]at h
variable {P:Program} {K:Ghost} {S:St} {w:World}
theorem Rep.canon1{a:AV}{v:Value}(r:Rep K a v):Rep K (canon1 a) v:=by
 unfold Ai.canon1;split
 ·exact r
 ·simp only[Rep]at r |-;obtain⟨base,cap,hv,hc,hs,h⟩:=r;refine⟨base,cap,hv,hc,hs,h.imp id ?_⟩;rintro⟨B,o,vs,hb,hf,hr,hz,_⟩;exact⟨B,o,vs,hb,hf,hr,hz,trivial⟩
 ·exact r
theorem JoM(a:AV):(canon1 a).one=a.one:=by unfold Ai.canon1;split <;> rfl
theorem JjL(a:AV):J7 (canon1 a)=J7 a:=by unfold Ai.canon1;split <;> simp[J7]
theorem RepL.canon:∀{a:List AV} {v:List Value},RepL K a v->RepL K (Jh a) v
 | [],_,r=>r
 | a::as,v,r=>by simp only[RepL]at r;obtain⟨x,xs,rfl,h1,h2,h3⟩:=r;simp only[Jh,Ap,RepL];exact⟨x,xs,rfl,by rw[JoM];exact h1,h2.canon1,RepL.canon h3⟩
theorem ZK:∀(a:List AV),Kl (Jh a)=Kl a
 | []=>rfl
 | a::as=>by have:=ZK as;simp only[Jh,Ap,Kl,JjL]at *;rw[this]
theorem Y5{w:World}{B:Nat}{vs:Array Value}{t:TypeId}{f:Nat×Nat}(h:w.heap[B]? = some (.cells vs t f))(j:Nat):w.cell? ⟨B,j,none⟩=vs[j]?:=by simp[World.cell?,h]
theorem Jda{w:World}{B:Nat}{vs:Array Value}{t:TypeId}(h:w.heap[B]? = some (.cells vs t (0,0)))(j:Nat):w.frozen? ⟨B,j,none⟩=false:=by simp[World.frozen?,h]
theorem Rel.fix_cell(R:Rel K S w){B o:Nat}{vs:List Value}(hf:K.fix B o vs)(j:Nat)(v:Value)(hj:vs[j]? = some v):w.cell? ⟨B,o+j,none⟩=some v:=by
 obtain⟨l,hg,hl⟩:=hf;obtain⟨us,t,hb,ht⟩:=R.rows B l hg;rw[Y5 hb];have hjl:j<vs.length:=(Ac.1 hj).1;have h1:l[o+j]? = some v:=by rw[<- hl]at hj;rw[Ci,if_pos hjl]at hj;simpa using hj
 have hll:o+j<l.length:=(Ac.1 h1).1;rw[<- ht,Ci,if_pos hll]at h1;simpa using h1
def Jco(P:Program)(T:TypeId)(k:Option Nat):Bool:=
 match P.underlying T,P.info? T with
 | some d,some i=>k ==(if d.isRow then some i.size else none)
 | _,_=>false
theorem Jb9{T:TypeId}{B o:Nat}{u:Value}(hk:Jco P T none=true)(hc:w.cell? ⟨B,o,none⟩=some u):(loadVar T ⟨B,o,none⟩).run P w=.ok u w:=by
 unfold Jco at hk;split at hk
 ·rename_i d i hd hi;split at hk
  ·simp at hk
  ·rename_i hn;have:(isAgg T).run P w=.ok false w:=by unfold isAgg;rw[A6,run_underlying hd w];cases d <;> simp_all[TypeDesc.isRow]
   simp[loadVar,this,hc]
 ·simp at hk
theorem Ja7{T:TypeId}{B o m:Nat}{us:List Value}(hk:Jco P T (some m)=true)(hl:us.length=m)(hc:∀ j v,us[j]? = some v->w.cell? ⟨B,o+j,none⟩=some v) :
  (loadVar T ⟨B,o,none⟩).run P w=.ok (.agg us.toArray) w:=by
 unfold Jco at hk;split at hk
 ·rename_i d i hd hi;split at hk
  ·rename_i hr;simp at hk;exact run_loadVar_mid w B o T us d hc hd hr (by rw[hi];simp;omega)
  ·simp at hk
 ·simp at hk
theorem JmJ{T:TypeId}{k:Option Nat}{a v:AV}{p:Value}(R:Rel K S w)(hk:Jco P T k=true)(hp:Rep K a p)(hv:J9 k a S.heap=some v) :
  ∃ v',(Instr.loadAt T p).run P w=.ok v' w/\Rep K v v':=by
 cases a <;> try(simp[J9]at hv;done)
 case ptr n off=>
  simp only[Rep]at hp;obtain⟨B,hm,rfl⟩:=hp;simp only[J9]at hv;cases hb:S.heap[n]? with
  | none=>simp[hb]at hv
  | some b=>
   cases b with
   | map es=>simp[hb]at hv
   | cells cs=>
    obtain⟨vs,t,hw,hr⟩:=R.cells n B cs hm hb;simp only[hb]at hv;cases k with
    | none=>obtain⟨u,hu,h1,h2⟩:=hr.get off v hv;refine⟨u,?_,h2⟩;simp only[Instr.loadAt,Instr.sureAddr,A6,Bg,AW];exact Jb9 hk (by rw[Y5 hw];simpa using hu)
    | some m=>
     simp only[BI,V]at hv;obtain⟨hle,rfl⟩:=hv;refine⟨.agg ((vs.toList.drop off).take m).toArray,?_,?_⟩
     ·simp only[Instr.loadAt,Instr.sureAddr,A6,Bg,AW];have hl:=hr.length;refine Ja7 hk (by simp at hl |-;omega) (λj u hj=>?_);rw[Y5 hw];rw[Ci]at hj;split at hj
      ·simpa using hj
      ·simp at hj
     ·simp only[Rep];exact⟨_,rfl,((hr.drop off).take m).canon⟩
 case ref cs=>
  simp only[Rep]at hp;obtain⟨B,o,vs,rfl,hf,hr⟩:=hp;cases k with
  | none=>simp only[J9]at hv;obtain⟨u,hu,h1,h2⟩:=hr.get 0 v hv;refine⟨u,?_,h2⟩;simp only[Instr.loadAt,Instr.sureAddr,A6,Bg,AW];exact Jb9 hk (by simpa using R.fix_cell hf 0 u hu)
  | some m=>
   simp only[J9,BI,V]at hv;obtain⟨hle,rfl⟩:=hv;refine⟨.agg (vs.take m).toArray,?_,?_⟩
   ·simp only[Instr.loadAt,Instr.sureAddr,A6,Bg,AW];have hl:=hr.length;refine Ja7 hk AR (λj u hj=>?_);refine R.fix_cell hf j u ?_;rw[Ci]at hj;split at hj
    ·exact hj
    ·simp at hj
   ·simp only[Rep];exact⟨_,rfl,hr.take m⟩
def JmK(P:Program)(T:TypeId)(zs:List AV):Bool:=
 match P.info? T with
 | some i=>match i.zero with
  | some z=>Jgj zs z.cells.toList && z.cells.size == i.size
  | none=>false
 | none=>false
theorem Jia(K:Ghost){T:TypeId}{zs:List AV}(h:JmK P T zs=true):∃ i z,P.info? T=some i/\i.zero=some z/\RepL K zs z.cells.toList/\z.cells.size=i.size:=by
 unfold JmK at h;split at h
 ·rename_i i hi;split at h
  ·rename_i z hz;simp only[Ah,beq_iff_eq]at h;exact⟨i,z,hi,hz,Jao K _ _ h.1,h.2⟩
  ·simp at h
 ·simp at h
theorem Xl{T:TypeId}{i:TypeInfo}{z:Value}(hi:P.info? T=some i)(hz:i.zero=some z):(zeroValue T).run P w=.ok z w:=by simp[zeroValue,typeInfo,hi,hz]
theorem VU{T:TypeId}{i:TypeInfo}(hi:P.info? T=some i):(sizeOf T).run P w=.ok i.size w:=by simp[sizeOf,typeInfo,hi]
theorem Qt(w:World)(o:Obj)(k:Nat):({w with heap:=w.heap.push o}:World).heap[k]? = if k=w.heap.size then some o else w.heap[k]?:=by simp only[Array.getElem?_push]
theorem Jj5(R:Rel K S w){n:Nat}{cs:List AV}{vs:Array Value}{t:TypeId}(hn:K.m n=none)(hS:S.heap[n]? = some (.cells cs))(hr:RepL K cs vs.toList) :
  ∃ K',Ext K K'/\K'.m n=some w.heap.size/\Rel K' S {w with heap:=w.heap.push (.cells vs t)}/\Step K (λk=>k≠n) w K' {w with heap:=w.heap.push (.cells vs t)}:=by
 have old:∀ k B,K.m k=some B->B<w.heap.size:=λk B hk=>by
  have hlt:=R.dom k B hk;cases hb:S.heap[k]? with
  | none=>simp at hb;omega
  | some b=>
   cases b with
   | cells cs=>obtain⟨vs,t,hw,_⟩:=R.cells k B cs hk hb;exact(AQ.1 hw).1
   | map es=>obtain⟨ms,ck,hw,_⟩:=R.maps k B es hk hb;exact(AQ.1 hw).1
 have oldg:∀ B l,K.g B=some l->B<w.heap.size:=λB l hg=>by obtain⟨vs,t,hw,_⟩:=R.rows B l hg;exact(AQ.1 hw).1
 refine⟨{K with m:=λk=>if k=n then some w.heap.size else K.m k},?_,Ag,?_,?_⟩
 ·refine⟨λk B hk=>?_,λB l hg=>⟨[],by simpa using hg⟩,λB b E sz size ha=>⟨E,ha,Ao _,λl l' h1 h2=>?_⟩,λ_ _ _ h=>h⟩
  ·by_cases hkn:k=n
   ·subst hkn;rw[hn]at hk;cases hk
   ·simp[hkn,hk]
  ·simp only at h2;rw[h1]at h2;cases h2;simp
 ·have hx:Ext K {K with m:=λk=>if k=n then some w.heap.size else K.m k}:=by
   refine⟨λk B hk=>?_,λB l hg=>⟨[],by simpa using hg⟩,λB b E sz size ha=>⟨E,ha,Ao _,λl l' h1 h2=>?_⟩,λ_ _ _ h=>h⟩
   ·by_cases hkn:k=n
    ·subst hkn;rw[hn]at hk;cases hk
    ·simp[hkn,hk]
   ·simp only at h2;rw[h1]at h2;cases h2;simp
  refine⟨?_,?_,?_,?_,?_,?_,?_⟩
  ·intro k B hk;simp only at hk;split at hk
   ·rename_i h;subst h;exact(Ac.1 hS).1
   ·exact R.dom k B hk
  ·intro k k' B hk hk';simp only at hk hk';split at hk <;> split at hk'
   ·simp_all
   ·simp only[V]at hk;have:=old _ _ hk';omega
   ·simp only[V]at hk';have:=old _ _ hk;omega
   ·exact R.inj k k' B hk hk'
  ·intro k B hk;simp only at hk |-;split at hk
   ·simp only[V]at hk;cases hg:K.g B with
    | none=>rfl
    | some l=>have:=oldg B l hg;omega
   ·exact R.sep k B hk
  ·intro k B cs' hk hb;simp only at hk;rw[Qt];split at hk
   ·rename_i h;simp only[V]at hk;subst hk h;rw[hS]at hb;cases hb;exact⟨vs,t,Ag,RepL.ext hx _ _ hr⟩
   ·have hlt:=old k B hk;obtain⟨vs',t',hw,hr'⟩:=R.cells k B cs' hk hb;exact⟨vs',t',by rw[if_neg O];exact hw,RepL.ext hx _ _ hr'⟩
  ·intro k B es hk hb;simp only at hk;rw[Qt];split at hk
   ·rename_i h;subst h;rw[hS]at hb;cases hb
   ·have hlt:=old k B hk;obtain⟨ms,ck,hw,hr'⟩:=R.maps k B es hk hb;refine⟨ms,ck,by rw[if_neg O];exact hw,?_⟩;clear hb hw;generalize ms.toList=l at hr';induction es generalizing l with
    | nil=>simpa only[RepM] using hr'
    | cons x es ih=>simp only[RepM]at hr' |-;obtain⟨m,ms',h1,h2,h3,h4⟩:=hr';exact⟨m,ms',h1,h2,Rep.ext hx _ _ h3,ih _ h4⟩
  ·intro B l hg;have hlt:=oldg B l hg;obtain⟨vs',t',hw,ht⟩:=R.rows B l hg;exact⟨vs',t',by rw[Qt,if_neg O];exact hw,ht⟩
  ·intro B b E sz size ha;obtain⟨l,hg,⟨vs',t',hw,hs⟩,hrow⟩:=R.grow B b E sz size ha;have hlt:=oldg B l hg;exact⟨l,hg,⟨vs',t',by rw[Qt,if_neg O];exact hw,hs⟩,hrow⟩
 ·refine⟨?_,rfl,rfl,rfl,Ag,?_,?_,?_,λ_ x h=>.inl ⟨x,h⟩⟩
  ·refine⟨λk B hk=>?_,λB l hg=>⟨[],by simpa using hg⟩,λB b E sz size ha=>⟨E,ha,Ao _,λl l' h1 h2=>?_⟩,λ_ _ _ h=>h⟩
   ·by_cases hkn:k=n
    ·subst hkn;rw[hn]at hk;cases hk
    ·simp[hkn,hk]
   ·simp only at h2;rw[h1]at h2;cases h2;simp
  ·intro B hB _ _;rw[Qt,if_neg O]
  ·intro B hB h1 h2;refine⟨λk hk=>?_,h2⟩;simp only at hk;split at hk
   ·simp only[V]at hk;omega
   ·exact h1 k hk
  ·intro k hk h;simp only at hk |-;rw[if_neg hk];exact h
theorem Rel.lt_m(R:Rel K S w){k B:Nat}(hk:K.m k=some B):B<w.heap.size:=by
 have hlt:=R.dom k B hk;cases hb:S.heap[k]? with
 | none=>simp at hb;omega
 | some b=>
  cases b with
  | cells cs=>obtain⟨vs,t,hw,_⟩:=R.cells k B cs hk hb;exact(AQ.1 hw).1
  | map es=>obtain⟨ms,ck,hw,_⟩:=R.maps k B es hk hb;exact(AQ.1 hw).1
theorem Rel.lt_g(R:Rel K S w){B:Nat}{l:List Value}(hg:K.g B=some l):B<w.heap.size:=by obtain⟨vs,t,hw,_⟩:=R.rows B l hg;exact(AQ.1 hw).1
theorem RepM.ext{K':Ghost}(hx:Ext K K'):∀{es:List (Jk×AV)} {l:List MapEntry},RepM K es l->RepM K' es l
 | [],_,h=>by simpa only[RepM] using h
 | x::es,l,h=>by simp only[RepM]at h |-;obtain⟨m,ms',h1,h2,h3,h4⟩:=h;exact⟨m,ms',h1,h2,Rep.ext hx _ _ h3,RepM.ext hx h4⟩
theorem Jql(R:Rel K S w)(vs:Array Value)(t:TypeId) :
  ∃ K',(K'.g w.heap.size=some vs.toList/\K'.a w.heap.size=none)/\K'.m=K.m/\Rel K' S {w with heap:=w.heap.push (.cells vs t)}/\∀ X,Step K X w K' {w with heap:=w.heap.push (.cells vs t)}:=by
 have hg0:K.g w.heap.size=none:=by
  cases hg:K.g w.heap.size with
  | none=>rfl
  | some l=>have:=R.lt_g hg;omega
 have ha0:∀ b E sz size,K.a w.heap.size≠some (b,E,sz,size):=λb E sz size ha=>by obtain⟨l,hg,_⟩:=R.grow _ _ _ _ _ ha;rw[hg0]at hg;cases hg
 have hx:Ext K {K with g:=λB=>if B=w.heap.size then some vs.toList else K.g B}:=by
  refine⟨λk B hk=>hk,λB l hg=>⟨[],?_⟩,λB b E sz size ha=>⟨E,ha,Ao _,λl l' h1 h2=>?_⟩,λ_ _ _ h=>h⟩
  ·have:=R.lt_g hg;simp only[Ar];rw[if_neg O];exact hg
  ·have:=R.lt_g h1;simp only at h2;rw[if_neg O,h1]at h2;cases h2;simp
 refine⟨{K with g:=λB=>if B=w.heap.size then some vs.toList else K.g B},⟨Ag,?_⟩,rfl,?_,λX=>?_⟩
 ·cases ha:K.a w.heap.size with
  | none=>rfl
  | some x=>obtain⟨b,E,sz,size⟩:=x;exact absurd ha (ha0 b E sz size)
 ·refine⟨R.dom,R.inj,?_,?_,?_,?_,?_⟩
  ·intro k B hk;have:=R.lt_m hk;simp only;rw[if_neg O];exact R.sep k B hk
  ·intro k B cs hk hb;have hlt:=R.lt_m hk;obtain⟨vs',t',hw,hr'⟩:=R.cells k B cs hk hb;exact⟨vs',t',by rw[Qt,if_neg O];exact hw,RepL.ext hx _ _ hr'⟩
  ·intro k B es hk hb;have hlt:=R.lt_m hk;obtain⟨ms,ck,hw,hr'⟩:=R.maps k B es hk hb;exact⟨ms,ck,by rw[Qt,if_neg O];exact hw,hr'.ext hx⟩
  ·intro B l hg;simp only at hg;rw[Qt];split at hg
   ·rename_i h;simp only[V]at hg;subst hg;exact⟨vs,t,by simp[h],by rw[AB (Ao _)]⟩
   ·have hlt:=R.lt_g hg;obtain⟨vs',t',hw,ht⟩:=R.rows B l hg;exact⟨vs',t',by rw[if_neg O];exact hw,ht⟩
  ·intro B b E sz size ha;obtain⟨l,hg,⟨vs',t',hw,hs⟩,hrow⟩:=R.grow B b E sz size ha;have hlt:=R.lt_g hg;exact⟨l,by simp only;rw[if_neg O];exact hg,⟨vs',t',by rw[Qt,if_neg O];exact hw,hs⟩,hrow⟩
 ·refine⟨hx,rfl,rfl,rfl,Ag,?_,?_,λ_ _ h=>h,λ_ x h=>.inl ⟨x,h⟩⟩
  ·intro B hB _ _;rw[Qt,if_neg O]
  ·intro B hB h1 h2;refine⟨h1,?_⟩;simp only;rw[if_neg O];exact h2
variable {P:Program} {K:Ghost} {S:St} {w:World}
theorem Jcp(off:Nat):∀(vs:List Value) (k:Nat) (cs:Array Value),off+k+vs.length<=cs.size ->
  ((vs.zipIdx k).foldl (λcs (x:Value×Nat)=>cs.setIfInBounds (off+x.2) x.1) cs).toList=cs.toList.take (off+k)++vs++cs.toList.drop (off+k+vs.length)
 | [],k,cs,_=>Ag
 | v::vs,k,cs,h=>by
  simp only[Ad]at h;simp only[Cp,Ce];rw[Jcp off vs (k+1) _ AR];have hlt:off+k<cs.toList.length:=AR;have e1:(cs.setIfInBounds (off+k) v).toList=cs.toList.take (off+k)++v::cs.toList.drop (off+k+1):=by simp only[DW];rw[CC,if_pos hlt]
  have hl:(cs.toList.take (off+k)).length=off+k:=AR;rw[e1];have t1:List.take (off+(k+1)) (cs.toList.take (off+k)++v::cs.toList.drop (off+k+1))=cs.toList.take (off+k)++[v]:=by rw[show off+(k+1)=(off+k)+1 by omega,CG,AB O,hl];simp
  have t2:List.drop (off+(k+1)+vs.length) (cs.toList.take (off+k)++v::cs.toList.drop (off+k+1))=cs.toList.drop (off+k+(v::vs).length):=by
   rw[DI,CE (by rw[hl];omega),hl];rw[show off+(k+1)+vs.length-(off+k)=vs.length+1 by omega];simp only[Az,DR,Au,Ad]
   congr 1;omega
  rw[t1,t2];simp
theorem Jgl(off:Nat)(v:Value)(cs:Array Value)(h:off+v.cells.size<=cs.size) :
  (v.cells.zipIdx.foldl (λcs (x:Value×Nat)=>cs.setIfInBounds (off+x.2) x.1) cs).toList=cs.toList.take off++v.cells.toList++cs.toList.drop (off+v.cells.size):=by
 have:=Jcp off v.cells.toList 0 cs (by simpa using h);simp only[AE]at this;rw[<- Array.foldl_toList];simpa using this
theorem RepL.overlay{a b:List AV}{u v:List Value}{off:Nat}(h:RepL K a u)(h':RepL K b v):RepL K (Ai.overlay a off b) (u.take off++v++u.drop (off+v.length)):=by unfold Ai.overlay;rw[h'.length];exact((h.take off).append h').append (h.drop _)
def Jfv(places:List (Nat×Nat)):List (Nat×Operand)->List (Nat×Nat×Opd)->Bool
 | [],[]=>true
 |(i,x)::ps,(off,sz,y)::qs=>places[i]? == some (off,sz) && Vp y x && Jfv places ps qs
 | _,_=>false
theorem JmL{e:V8}{a:Act}(E:EnvRep K e a.tmps){places:List (Nat×Nat)}:∀{ps:List (Nat×Operand)} {qs:List (Nat×Nat×Opd)} {cs cs':List AV} {vs:Array Value},
  Jfv places ps qs=true->RepL K cs vs.toList->Jcm e qs cs=some cs' ->
  ∃ vs',Instr.fill (places.toArray[·]?) vs (ps.map λ(i,x)=>(i,a.eval x))=some vs'/\RepL K cs' vs'.toList
 | [],[],cs,cs',vs,_,hr,hf=>by simp only[Jcm,V]at hf;subst hf;exact⟨vs,rfl,hr⟩
 |(i,x)::ps,(off,sz,y)::qs,cs,cs',vs,h,hr,hf=>by
  simp only[Jfv,Ah,beq_iff_eq]at h;obtain⟨⟨h1,h2⟩,h3⟩:=h;simp only[Jcm]at hf;split at hf
  ·rename_i v hv;split at hf
   ·rename_i hc;obtain⟨hc1,hc2,hc3⟩:=hc;have hrv:=JA E h2 hv;have hcells:=hrv.cells hc3;have hlen:=hcells.length;have hlen':=hr.length;simp only[Bu]at hlen hlen';obtain⟨vs',hf',hr'⟩:=JmL E (ps:=ps) (vs:=(a.eval x).cells.zipIdx.foldl (λcs (z:Value×Nat)=>cs.setIfInBounds (off+z.2) z.1) vs) h3
     (by rw[Jgl off _ vs O]
         have:=RepL.overlay (off:=off) hr hcells;simpa using this) hf
    refine⟨vs',?_,hr'⟩;have hp:places.toArray[i]? = some (off,sz):=by simpa using h1
    simp only[Ap,Instr.fill,hp];rw[if_neg AR];exact hf'
   ·simp at hf
  ·simp at hf
 | [],_::_,_,_,_,h,_,_=>by simp[Jfv]at h
 | _::_,[],_,_,_,h,_,_=>by simp[Jfv]at h
def Jlh:Nat->List (Nat×Operand)->List Opd->Bool
 | _,[],[]=>true
 | k,(i,x)::ps,y::qs=>i == k && Vp y x && Jlh (k+1) ps qs
 | _,_,_=>false
theorem Jib{e:V8}{a:Act}(E:EnvRep K e a.tmps){sz:Nat}:∀{ps:List (Nat×Operand)} {qs:List Opd} {us:List AV} {fl:List AV} (k:Nat) (cs:Array Value) (pre:List Value),
  Jlh k ps qs=true->X9 qs e=some us->Jbw sz us=some fl->cs.toList.take (k*sz)=pre->pre.length=k*sz->cs.size=(k+us.length)*sz ->
  ∃ vs',Instr.fill (λi=>some (i*sz,sz)) cs (ps.map λ(i,x)=>(i,a.eval x))=some vs'/\∃ new,vs'.toList=pre++new/\RepL K fl new
 | [],[],us,fl,k,cs,pre,_,hv,hf,hp,hl,hs=>by simp only[X9,V]at hv;subst hv;simp only[Jbw,V]at hf;subst hf;refine⟨cs,rfl,[],?_,by simp[RepL]⟩;simp only[Af,AE]at hs;rw[<- hp,AB AR];simp
 |(i,x)::ps,y::qs,us,fl,k,cs,pre,h,hv,hf,hp,hl,hs=>by
  simp only[Jlh,Ah,beq_iff_eq]at h;obtain⟨⟨rfl,h2⟩,h3⟩:=h;simp only[X9]at hv;cases hx:y.val e with
  | none=>simp[hx]at hv
  | some v=>
   cases hxs:X9 qs e with
   | none=>simp[hx,hxs]at hv
   | some vs=>
    simp only[hx,hxs,V]at hv;subst hv;simp only[Jbw]at hf;split at hf
    ·rename_i hc;obtain⟨hc1,hc2⟩:=hc;cases hfl:Jbw sz vs with
     | none=>simp[hfl]at hf
     | some fl'=>
      simp only[hfl,A9,V]at hf;subst hf;have hcells:=(JA E h2 hx).cells hc2;have hlen:=hcells.length;simp only[Bu]at hlen;have hsz:(a.eval x).cells.size=sz:=O;have hs':cs.size=(i+(vs.length+1))*sz:=by simpa using hs
      have hmul:(i+(vs.length+1))*sz=i*sz+sz+vs.length*sz:=by rw[Bs,Bs];omega
      have hov:=Jgl (i*sz) (a.eval x) cs O;have hsize:((a.eval x).cells.zipIdx.foldl (λcs (z:Value×Nat)=>cs.setIfInBounds (i*sz+z.2) z.1) cs).size=cs.size:=by have h1:=congrArg List.length hov;rw[Bu]at h1;rw[h1];simp only[AG,A8,Ch,Bu];omega
      obtain⟨vs',hf',new,hnew,hr⟩:=Jib E (ps:=ps) (i+1) ((a.eval x).cells.zipIdx.foldl (λcs (z:Value×Nat)=>cs.setIfInBounds (i*sz+z.2) z.1) cs) (pre++(a.eval x).cells.toList)
       h3 hxs hfl (by rw[hov,hp];rw[BG,<- BG pre];rw[BM (by simp[hl,Bs];omega),AB (by simp[hl,Bs];omega)])
       (by simp[hl,Bs];omega) (by rw[hsize,hs'];congr 1;omega)
      refine⟨vs',?_,(a.eval x).cells.toList++new,by rw[hnew,BG],hcells.append hr⟩;simp only[Ap,Instr.fill];rw[if_neg (by simp[hsz];omega)];exact hf'
    ·simp at hf
 | [],_::_,_,_,_,_,_,h,_,_,_,_,_=>by simp[Jlh]at h
 | _::_,[],_,_,_,_,_,h,_,_,_,_,_=>by simp[Jlh]at h
theorem Jgm{sz:Nat}:∀{us:List AV} {rows:List (List AV)},Yx sz us=some rows ->
  ∃ fl,Jbw sz us=some fl/\rows.flatten=Jh fl/\rows.length=us.length/\∀ r∈rows,r.length=sz/\Kl r=true
 | [],rows,h=>by simp only[Yx,V]at h;subst h;exact⟨[],rfl,rfl,rfl,Ag⟩
 | v::vs,rows,h=>by
  simp only[Yx]at h;split at h
  ·rename_i hc;obtain⟨h1,h2,h3⟩:=hc;cases hr:Yx sz vs with
   | none=>simp[hr]at h
   | some rs=>
    simp only[hr,A9,V]at h;subst h;obtain⟨fl,hf,hfl,hl,hall⟩:=Jgm hr;refine⟨v.cells++fl,by simp[Jbw,h1,h3,hf],by simp[hfl,Jh],by simp[hl],?_⟩;intro r hmem;rcases AS.1 hmem with rfl |hmem
    ·refine⟨by simp[Jh,h1],?_⟩;rw[ZK];cases v <;> simp_all[AV.cells,Kl,J7]
    ·exact hall r hmem
  ·simp at h
variable {P:Program} {K:Ghost} {S:St} {w:World}
def sliceB(P:Program)(T:TypeId)(sz:Nat):Bool:=
 match P.underlying T with
 | some (.slice e)=>match P.info? e with
  | some i=>i.size == sz
  | none=>false
 | _=>false
theorem Jcq{T:TypeId}{sz:Nat}(h:sliceB P T sz=true):∃ e i,P.underlying T=some (.slice e)/\P.info? e=some i/\i.size=sz:=by
 unfold sliceB at h;split at h
 ·rename_i e he;split at h
  ·rename_i i hi;exact⟨e,i,he,hi,by simpa using h⟩
  ·simp at h
 ·simp at h
def Jeu(P:Program)(T:TypeId)(sz:Nat):Bool:=
 match P.underlying T with
 | some (.slice e)=>match P.info? e with
  | some i=>i.size == sz && match i.zero with
   | some z=>z.cells.size == sz
   | none=>false
  | none=>false
 | _=>false
theorem Jev{T:TypeId}{sz:Nat}(h:Jeu P T sz=true):∃ e i z,P.underlying T=some (.slice e)/\P.info? e=some i/\i.size=sz/\i.zero=some z/\z.cells.size=sz:=by
 unfold Jeu at h;split at h
 ·rename_i e he;split at h
  ·rename_i i hi;simp only[Ah,beq_iff_eq]at h;obtain⟨h1,h2⟩:=h;split at h2
   ·rename_i z hz;exact⟨e,i,z,he,hi,h1,hz,by simpa using h2⟩
   ·simp at h2
  ·simp at h
 ·simp at h
def Ja8(P:Program)(T:TypeId)(f:Nat):Option Field:=
 match P.underlying T with
 | some (.struct fs)=>fs[f]?
 | _=>none
def JmM:Option Opd->Option Operand->Bool
 | none,none=>true
 | some x,some y=>Vp x y
 | _,_=>false
def Jew(P:Program)(T:TypeId):Bool:=match P.underlying T with |some .string=>true |_=>false
theorem Jap{T:TypeId}(h:Jew P T=true):P.underlying T=some .string:=by unfold Jew at h;split at h <;> simp_all
def Jli(P:Program)(T:TypeId):Bool:=match P.underlying T with |some .bool=>true |_=>false
theorem Jex{T:TypeId}(h:Jli P T=true):P.underlying T=some .bool:=by unfold Jli at h;split at h <;> simp_all
def JoN(P:Program)(T:TypeId):Bool:=match P.underlying T with |some (.pointer _)=>true |_=>false
theorem YW{T:TypeId}(h:JoN P T=true):∃ e,P.underlying T=some (.pointer e):=by unfold JoN at h;split at h <;> simp_all
def J13(P:Program)(T:TypeId):Bool:=match P.underlying T with |some (.int _) |some .string=>true |_=>false
def Jfw(P:Program)(T:TypeId):Bool:=match P.underlying T with |some (.int _)=>true |_=>false
def JoO(P:Program)(T:TypeId):Bool:=match P.underlying T with
 | some (.struct fs)=>(match fs.toList with
  | [f,g]=>f.name != "_" && g.name != "_" && Jfw P f.type && Jfw P g.type && f.offset == 0 && g.offset == 1
  | _=>false) && !P.stoodInHeld T && !P.eqGuardType P.depth T
 | _=>false
theorem Jey{e:TypeId}(he:Jfw P e=true){xs:Array Value}{off:Nat}{v:Value}(hx:xs[off]? = some v):(part e xs off).run P w=.ok v w:=by
 unfold Jfw at he;split at he
 ·rename_i k hu;simp[part,isAgg,run_underlying hu,hx]
 ·cases he
theorem Jlj{T:TypeId}(h:JoO P T=true)(d:Nat)(k l:IntKind)(a b a' b':Int):(Op.equalIn (d+1+1) T (.agg #[.int k a,.int l b]) (.agg #[.int k a',.int l b'])).run P w=.ok (a == a' && b == b') w:=by
 unfold JoO at h;split at h
 ·rename_i fs hu;split at h
  ·rename_i f g hfs;obtain rfl:fs=#[f,g]:=Cr hfs;simp only[Ah,bne_iff_ne,ne_eq,beq_iff_eq,Bb]at h;obtain⟨⟨⟨⟨⟨⟨⟨h1,h2⟩,h3⟩,h4⟩,h5⟩,h6⟩,h7⟩,h8⟩:=h;have e1:∀ x y:Int,(part f.type #[.int k x,.int l y] f.offset).run P w=.ok (.int k x) w:=λx y=>Jey h3 (by rw[h5];rfl);have e2:∀ x y:Int,(part g.type #[.int k x,.int l y] g.offset).run P w=.ok (.int l y) w:=λx y=>Jey h4 (by rw[h6];rfl);have q1:∃ q,P.underlying f.type=some (.int q):=by
    unfold Jfw at h3;split at h3
    ·exact⟨_,Aa⟩
    ·cases h3
   have q2:∃ q,P.underlying g.type=some (.int q):=by
    unfold Jfw at h4;split at h4
    ·exact⟨_,Aa⟩
    ·cases h4
   obtain⟨q1,hq1⟩:=q1;obtain⟨q2,hq2⟩:=q2;simp only[Op.equalIn,A6,run_underlying hu,AW];simp[h1,h2,h7,e1,e2,run_underlying hq1,run_underlying hq2];by_cases hx:a=a'
   ·by_cases hy:b=b' <;> simp[hx,hy]
   ·simp[hx]
  ·simp at h
 ·cases h
theorem Jic{T:TypeId}(h:JoO P T=true)(k l:IntKind)(a b a' b':Int):(Op.equal T (.agg #[.int k a,.int l b]) (.agg #[.int k a',.int l b'])).run P w=.ok (a == a' && b == b') w:=Jlj h 9998 k l a b a' b'
def tkB(P:Program)(T:TypeId):TK->Bool
 | .num=>J13 P T
 | .bool=>Jli P T
 | .ptr=>JoN P T
 | .two=>JoO P T
def JoP(P:Program)(T:TypeId):Option TypeId:=
 match P.underlying T with
 | some (.map kt et)=>if Jew P kt then some et else none
 | _=>none
def JoQ(P:Program)(op:Op)(q:QOp):Bool:=
 match op,q with
 | .move x,.mov y=>Vp y x
 | .assign x,.mov y=>Vp y x
 | .pick c a b,.pick c' a' b'=>Vp c' c && Vp a' a && Vp b' b
 | .alloc T,.alloc _ zs=>JmK P T zs
 | .build T ps,.build zs qs=>match P.underlying T with
  | some (.struct fs)=>match fs.toList.mapM (λf=>(P.info? f.type).map λi=>(f.offset,i.size))with
   | some places=>JmK P T zs && Jfv places ps.toList qs
   | none=>false
  | _=>false
 | .buildSlice T n ps,.mkList sz xs=>Jeu P T sz && Jlh 0 ps.toList xs && xs.length == n && decide (n*sz<=16777216) && decide (0<sz)
 | .load T a,.load k y=>Jco P T k && Vp y a
 | .nilCheck x,.nilCheck y=>Vp y x
 | .binOp op T x y _,.bin tk op' x' y'=>op == op' && Vp x' x && Vp y' y && tkB P T tk
 | .unOp .not _ x,.unot y=>Vp y x
 | .unOp .neg _ x,.uneg y=>Vp y x
 | .convert s d x,.conv k y=>(P.underlying s).isSome && (match P.underlying d with |some (.int k')=>k == k' |_=>false) && Vp y x
 | .convert s d x,.convS y=>(P.underlying s).isSome && Jew P d && Vp y x
 | .makeInterface T x,.mkIface t y=>T == t && P.concrete T && Vp y x
 | .makeFunc (.func f) a b,.mkFunc f' a' b'=>f == f' && Jgk a' a.toList && Jgk b' b.toList
 | .slice T x lo hi none,.slice sz y lo' hi'=>sliceB P T sz && Vp y x && JmM lo' lo && JmM hi' hi
 | .slice T x lo hi none,.sliceS y lo' hi'=>Jew P T && Vp y x && JmM lo' lo && JmM hi' hi
 | .fieldAddr T x f,.fieldAddr off y=>match Ja8 P T f with
  | some fd=>fd.offset == off && (match P.info? fd.type with |some i=>i.size != 0 |none=>false) && Vp y x
  | none=>false
 | .field T x f,.field off k y=>match Ja8 P T f with
  | some fd=>fd.offset == off && Jco P fd.type k && Vp y x
  | none=>false
 | .indexAddr T x i,.indexAddr sz y j=>sliceB P T sz && Vp y x && Vp j i
 | .index T x i,.index y j=>Jew P T && Vp y x && Vp j i
 | .lookup T m k ok,.lookup zero ok' m' k'=>match JoP P T with
  | some et=>(match P.info? et with
   | some i=>(match i.zero with |some z=>ZY zero z |none=>false)
   | none=>false) && ok == ok' && Vp m' m && Vp k' k
  | none=>false
 | .typeAssert x _ t true,.tassert t' zero y=>t == t' && P.concrete t && (match P.info? t with
   | some i=>(match i.zero with |some z=>ZY zero z |none=>false)
   | none=>false) && Vp y x
 | .extract x i,.extract y j=>i == j && Vp y x
 | .call c,.len y=>match c.callee with
  | .builtin .len=>(match c.args.toList,c.argTypes[0]? with
   | [x],some t=>(match P.underlying t with |some (.slice _)=>true |_=>false) && Vp y x
   | _,_=>false)
  | _=>false
 | .call c,.lenS y=>match c.callee with
  | .builtin .len=>(match c.args.toList,c.argTypes[0]? with
   | [x],some t=>Jew P t && Vp y x
   | _,_=>false)
  | _=>false
 | .call c,.lenM y=>match c.callee with
  | .builtin .len=>(match c.args.toList,c.argTypes[0]? with
   | [x],some t=>(JoP P t).isSome && Vp y x
   | _,_=>false)
  | _=>false
 | .call c,.min2 x' y'=>match c.callee with
  | .builtin .min=>(match c.args.toList with
   | [x,y]=>Vp x' x && Vp y' y
   | _=>false)
  | _=>false
 | _,_=>false
def ZN(P:Program)(K:Ghost)(w:World)(v:AV)(s:Sem Value):Prop:=∃ v',s.run P w=.ok v' w/\Rep K v v'
section ops
variable {e:V8} {a:Act} {v:AV}
theorem Jez(s:Jk):(⟨s.toArray⟩:ByteArray).size=s.length:=by simp[ByteArray.size]
theorem YC{op:BinOp}{T:TypeId}{o1 o2:Operand}{x y:Value}(h:x.oneCell'=true)(h2:x≠.nilIface):(eqGuard op T o1 o2 x y).run P w=.ok () w:=by
 unfold eqGuard;cases op <;> first
  | rfl
  |(cases x <;> first |rfl |exact absurd rfl h2 |simp[Value.oneCell']at h)
theorem JmN{T:TypeId}(d:Nat)(p:Option Addr)(h:∃ e,P.underlying T=some (.pointer e)):(Op.equalIn (d+1) T (.pointer none) (.pointer p)).run P w=.ok p.isNone w:=by obtain⟨e,he⟩:=h;cases p <;> simp[Op.equalIn,run_underlying he]
theorem Jlk{T:TypeId}(d:Nat)(p:Option Addr)(h:∃ e,P.underlying T=some (.pointer e)):(Op.equalIn (d+1) T (.pointer p) (.pointer none)).run P w=.ok p.isNone w:=by obtain⟨e,he⟩:=h;cases p <;> simp[Op.equalIn,run_underlying he]
theorem JmO{T:TypeId}(p:Option Addr)(h:∃ e,P.underlying T=some (.pointer e)):(Op.equal T (.pointer none) (.pointer p)).run P w=.ok p.isNone w:=JmN 9999 p h
theorem Jj6{T:TypeId}(p:Option Addr)(h:∃ e,P.underlying T=some (.pointer e)):(Op.equal T (.pointer p) (.pointer none)).run P w=.ok p.isNone w:=Jlk 9999 p h
theorem JeA{T:TypeId}(p:Option Addr)(h:∃ e,P.underlying T=some (.pointer e)):(binOp .eql T (.pointer none) (.pointer p)).run P w=.ok (.bool p.isNone) w:=by simp only[binOp];simp[JmO p h]
theorem JeB{T:TypeId}(p:Option Addr)(h:∃ e,P.underlying T=some (.pointer e)):(binOp .neq T (.pointer none) (.pointer p)).run P w=.ok (.bool (!p.isNone)) w:=by simp only[binOp];simp[JmO p h]
theorem JjM{T:TypeId}(p:Option Addr)(h:∃ e,P.underlying T=some (.pointer e)):(binOp .eql T (.pointer p) (.pointer none)).run P w=.ok (.bool p.isNone) w:=by simp only[binOp];simp[Jj6 p h]
theorem JjN{T:TypeId}(p:Option Addr)(h:∃ e,P.underlying T=some (.pointer e)):(binOp .neq T (.pointer p) (.pointer none)).run P w=.ok (.bool (!p.isNone)) w:=by simp only[binOp];simp[Jj6 p h]
theorem Jj7{op:BinOp}{T:TypeId}{o1 o2:Operand}{x y:Array Value}(h:JoO P T=true):(eqGuard op T o1 o2 (.agg x) (.agg y)).run P w=.ok () w:=by
 have h8:P.eqGuardType P.depth T=false:=by
  unfold JoO at h;split at h
  ·simp only[Ah,Bb]at h;exact h.2
  ·cases h
 unfold eqGuard;cases op <;> first
  | rfl
  | simp[h8]
theorem Be{Q:Prop}(h:Q:=by simp[Rep]):Q:=h
theorem JeC{tk:TK}{op:BinOp}{T:TypeId}{o1 o2:Operand}(p q:Option Addr)(hT:tkB P T tk=true)(h1:p=none\/q=none)(h2:p.isSome=true\/q.isSome=true)
  (hv:(match (generalizing:=false) tk,op with |.ptr,.eql=>some (.bool false) |.ptr,.neq=>some (.bool true) |_,_=>none)=some v) :
  ZN P K w v (do eqGuard op T o1 o2 (.pointer p) (.pointer q);binOp op T (.pointer p) (.pointer q)):=by
 unfold ZN;simp only[A6,YC (x:=.pointer p) rfl Ag,AW];cases tk <;> cases op <;> simp only[V,reduceCtorEq]at hv
 case ptr.eql=>
  subst hv;refine⟨.bool false,?_,Be⟩;rcases h1 with rfl |rfl
  ·rw[JeA q (YW hT)];cases q <;> simp_all
  ·rw[JjM p (YW hT)];cases p <;> simp_all
 case ptr.neq=>
  subst hv;refine⟨.bool true,?_,Be⟩;rcases h1 with rfl |rfl
  ·rw[JeB q (YW hT)];cases q <;> simp_all
  ·rw[JjN p (YW hT)];cases p <;> simp_all
theorem JSQ{tk:TK}{op:BinOp}{T:TypeId}{x y:AV}{x' y':Value}{o1 o2:Operand}(hT:tkB P T tk=true)(hx:Rep K x x')(hy:Rep K y y')(hv:Jet tk op x y=some v) :
  ZN P K w v (do eqGuard op T o1 o2 x' y';binOp op T x' y'):=by
 unfold Jet at hv;split at hv
 ·
  simp only[Rep]at hx hy;subst hx hy;rename_i k a k' b;split at hv
  ·rename_i hk;subst hk;unfold ZN;simp only[A6,YC (x:=.int k a) rfl Ag,AW];cases op <;> simp only[V,reduceCtorEq]at hv
   case add=>subst hv;exact⟨.int k (k.wrap (a+b)),by simp[binOp,Op.intArith],Be⟩
   case sub=>subst hv;exact⟨.int k (k.wrap (a-b)),by simp[binOp,Op.intArith],Be⟩
   case mul=>subst hv;exact⟨.int k (k.wrap (a*b)),by simp[binOp,Op.intArith],Be⟩
   case quo=>
    split at hv
    ·simp at hv
    ·rename_i hb;simp only[V]at hv;subst hv;exact⟨.int k (k.wrap (a.tdiv b)),by simp[binOp,Op.intDiv,hb],Be⟩
   case rem=>
    split at hv
    ·simp at hv
    ·rename_i hb;simp only[V]at hv;subst hv;exact⟨.int k (a.tmod b),by simp[binOp,Op.intDiv,hb],Be⟩
   case eql=>subst hv;exact⟨.bool (a == b),by simp[binOp,Op.intCmp],Be⟩
   case neq=>subst hv;exact⟨.bool (a != b),by simp[binOp,Op.intCmp],Be⟩
   case lss=>subst hv;exact⟨.bool (a<b),by simp[binOp,Op.intCmp],Be⟩
   case leq=>subst hv;exact⟨.bool (a<=b),by simp[binOp,Op.intCmp],Be⟩
   case gtr=>subst hv;exact⟨.bool (a > b),by simp[binOp,Op.intCmp],Be⟩
   case geq=>subst hv;exact⟨.bool (a ≥ b),by simp[binOp,Op.intCmp],Be⟩
  ·simp at hv
 ·
  rename_i s t;simp only[Rep]at hx hy;subst hx hy;unfold ZN;simp only[A6,YC (x:=.string _) rfl Ag,AW];cases op <;> simp only[V,reduceCtorEq]at hv
  case add=>
   split at hv
   ·rename_i hlt;simp only[V]at hv;subst hv;refine⟨.string ⟨(s++t).toArray⟩,?_,Be⟩;have h1:¬ (IntKind.i64.max<(((⟨s.toArray⟩:ByteArray).size+(⟨t.toArray⟩:ByteArray).size:Nat):Int)):=by rw[Jez,Jez];show ¬ ((9223372036854775807:Int)<_);omega
    have h2:(⟨s.toArray⟩:ByteArray)++⟨t.toArray⟩=⟨(s++t).toArray⟩:=by apply ByteArray.ext;simp
    simp only[binOp,Op.stringOp,gt_iff_lt,h1,if_false,Bg,h2]
   ·simp at hv
  case eql=>subst hv;exact⟨.bool (s == t),by simp[binOp,Op.stringOp],Be⟩
  case neq=>subst hv;exact⟨.bool (!(s == t)),by simp[binOp,Op.stringOp],Be⟩
  case lss=>subst hv;exact⟨.bool (Op.bytesLess s t),by simp[binOp,Op.stringOp],Be⟩
  case leq=>subst hv;exact⟨.bool (Op.bytesLess s t ||(s == t)),by simp[binOp,Op.stringOp],Be⟩
  case gtr=>subst hv;exact⟨.bool (!(Op.bytesLess s t ||(s == t))),by simp[binOp,Op.stringOp],Be⟩
  case geq=>subst hv;exact⟨.bool (!Op.bytesLess s t),by simp[binOp,Op.stringOp],Be⟩
 ·
  rename_i b c;simp only[Rep]at hx hy;subst hx hy;unfold ZN;simp only[A6,YC (x:=.bool _) rfl Ag,AW];cases tk <;> cases op <;> simp only[V,reduceCtorEq]at hv
  case bool.eql=>subst hv;exact⟨.bool (b == c),run_eql_bool w T b c (Jex hT),Be⟩
  case bool.neq=>subst hv;exact⟨.bool (!(b == c)),run_neq_bool w T b c (Jex hT),Be⟩
 ·
  simp only[Rep]at hx hy;subst hx hy;unfold ZN;simp only[A6,YC (x:=.pointer none) rfl Ag,AW];cases tk <;> cases op <;> simp only[V,reduceCtorEq]at hv
  case ptr.eql=>subst hv;exact⟨.bool true,JeA none (YW hT),Be⟩
  case ptr.neq=>subst hv;exact⟨.bool false,JeB none (YW hT),Be⟩
 ·
  simp only[Rep]at hx hy;obtain⟨B,_,hy⟩:=hy;subst hx hy;exact JeC _ _ hT Ag Ag hv
 ·simp only[Rep]at hx hy;obtain⟨B,_,hx⟩:=hx;subst hx hy;exact JeC _ _ hT Ag Ag hv
 ·simp only[Rep]at hx hy;obtain⟨B,o,vs,hy,_⟩:=hy;subst hx hy;exact JeC _ _ hT Ag Ag hv
 ·simp only[Rep]at hx hy;obtain⟨B,o,vs,hx,_⟩:=hx;subst hx hy;exact JeC _ _ hT Ag Ag hv
 ·
  rename_i k a l b k' a' l' b';simp only[Rep,RepL]at hx hy;obtain⟨vs,rfl,v1,q1,rfl,-,rfl,v2,q2,rfl,-,rfl,rfl⟩:=hx;obtain⟨vs',rfl,v3,q3,rfl,-,rfl,v4,q4,rfl,-,rfl,rfl⟩:=hy;split at hv
  ·rename_i hkl;obtain⟨rfl,rfl⟩:=hkl;unfold ZN;cases tk <;> cases op <;> simp only[V,reduceCtorEq]at hv
   case two.eql=>subst hv;have h1:=Jic (w:=w) hT k l a b a' b';refine⟨.bool (a == a' && b == b'),?_,Be⟩;simp only[A6,Jj7 hT,AW];simp only[binOp];simp[h1]
   case two.neq=>subst hv;have h1:=Jic (w:=w) hT k l a b a' b';refine⟨.bool (!(a == a' && b == b')),?_,Be⟩;simp only[A6,Jj7 hT,AW];simp only[binOp];simp[h1]
  ·simp at hv
 ·simp at hv
theorem JED{s d:TypeId}{k:IntKind}{n:Int}(hs:(P.underlying s).isSome=true)(hd:P.underlying d=some (.int k)){k0:IntKind} :
  (convert s d (.int k0 n)).run P w=.ok (.int k (k.wrap n)) w:=by
 obtain⟨u,hu⟩:=BQ.1 hs;simp[convert,run_underlying hu,run_underlying hd,Conv.intToInt]
theorem JwI{s d:TypeId}{b:ByteArray}(hs:(P.underlying s).isSome=true)(hd:P.underlying d=some .string) :
  (convert s d (.string b)).run P w=.ok (.string b) w:=by
 obtain⟨u,hu⟩:=BQ.1 hs;simp[convert,run_underlying hu,run_underlying hd]
theorem Ya(B o n:Nat):(⟨B,o,none⟩:Addr).add n=⟨B,o+n,none⟩:=by unfold Addr.add;split <;> simp_all
theorem Jbx{x:Option Opd}{y:Option Operand}{l:Option Int}(E:EnvRep K e a.tmps)(h:JmM x y=true)(hx:Jb8 x e=some l) :
  (l=none/\y.map a.eval=none)\/∃ k n,l=some n/\y.map a.eval=some (.int k n):=by
 cases x with
 | none=>
  cases y with
  | none=>simp only[Jb8,V]at hx;exact .inl ⟨hx.symm,rfl⟩
  | some y=>simp[JmM]at h
 | some x=>
  cases y with
  | none=>simp[JmM]at h
  | some y=>
   simp only[JmM]at h;simp only[Jb8]at hx;cases hv:x.val e with
   | none=>simp[hv]at hx
   | some v=>
    simp only[hv]at hx;have hr:=JA E h hv;cases v <;> simp[JSP]at hx
    rename_i k n;simp only[Rep]at hr;exact .inr ⟨k,n,hx.symm,by simp[hr]⟩
theorem Jid{isSlice:Bool}{len cap:Nat}{lo hi:Option Value}{l h:Option Int}(hlc:len<=cap)
  (hl:(l=none/\lo=none)\/∃ k n,l=some n/\lo=some (.int k n)) (hh:(h=none/\hi=none)\/∃ k n,h=some n/\hi=some (.int k n))
  (h0:0<=l.getD 0) (h1:l.getD 0<=h.getD len) (h2:h.getD len<=len) :
  (Instr.sliceBounds isSlice len cap lo hi none).run P w=.ok ((l.getD 0).toNat,(h.getD len).toNat,cap) w:=by
 have sb:∀(k:IntKind) (n:Int) (y:Nat) (code:BoundsCode),0<=n->n<=y->(Instr.sliceBound (.int k n) y code).run P w=.ok n.toNat w:=by intro k n y code g1 g2;simp only[Instr.sliceBound,asIntOf,A6,Bg,AW];rw[if_pos ⟨g1,g2⟩];rfl
 unfold Instr.sliceBounds;rcases hh with⟨rfl,rfl⟩ |⟨k,n,rfl,rfl⟩ <;> rcases hl with⟨rfl,rfl⟩ |⟨k',n',rfl,rfl⟩ <;> simp only[Bc,BR]at h0 h1 h2 |-
 ·simp
 ·have g:=sb k' n' len .sliceB h0 h1;simp[g]
 ·have g1:=sb k n cap .sliceAcap O O;have g2:=sb k n cap .sliceAlen O O;cases isSlice <;> simp[g1,g2]
 ·have g1:=sb k n cap .sliceAcap O O;have g2:=sb k n cap .sliceAlen O O;have g:=sb k' n' n.toNat .sliceB h0 O;cases isSlice <;> simp[g1,g2,g]
theorem Jtp{T:TypeId}{x:AV}{x':Value}{l h:Option Int}{lo hi:Option Value}(hT:Jew P T=true)(hx:Rep K x x')
  (hl:(l=none/\lo=none)\/∃ k n,l=some n/\lo=some (.int k n)) (hh:(h=none/\hi=none)\/∃ k n,h=some n/\hi=some (.int k n)) (hv:Jhk x l h=some v) :
  ZN P K w v (Instr.sliceAt T x' lo hi none):=by
 unfold Jhk at hv;split at hv
 ·rename_i s;simp only[Rep]at hx;subst hx;simp only[BI,V]at hv;obtain⟨⟨h0,h1,h2⟩,rfl⟩:=hv;have hb:=Jid (P:=P) (w:=w) (isSlice:=false) (len:=s.length) (cap:=s.length) (Ao _) hl hh h0 h1 h2;refine⟨.string ⟨((s.drop (l.getD 0).toNat).take ((h.getD s.length).toNat-(l.getD 0).toNat)).toArray⟩,?_,Be⟩;simp[Instr.sliceAt,Instr.slice,run_underlying (Jap hT),Jez,hb,ByteArray.extract_mk]
 ·simp at hv
theorem Y6{sz:Nat}:∀(rows:List (List AV)),(∀ r∈rows,r.length=sz)->∀ i,(rows.drop i).flatten=rows.flatten.drop (i*sz)
 | [],_,i=>Ag
 | r::rs,h,0=>Ag
 | r::rs,h,i+1=>by have h1:=h r Ag;have e1:r.drop ((i+1)*sz)=[]:=CE (by rw[h1,Bs];omega);rw[Az,Y6 rs (λx hx=>h x (by simp[hx])) i,BF,DI,e1];rw[h1,show(i+1)*sz-sz=i*sz by rw[Bs];omega];rfl
theorem JeD{sz:Nat}:∀(rows:List (List AV)),(∀ r∈rows,r.length=sz)->∀ i,(rows.take i).flatten=rows.flatten.take (i*sz)
 | [],_,i=>Ag
 | r::rs,h,0=>Ag
 | r::rs,h,i+1=>by have h1:=h r Ag;have e1:r.take ((i+1)*sz)=r:=AB (by rw[h1,Bs];omega);rw[Ay,BF,JeD rs (λx hx=>h x (by simp[hx])) i,BF,CG,e1];rw[h1,show(i+1)*sz-sz=i*sz by rw[Bs];omega]
theorem VH{sz:Nat}:∀(rows:List (List AV)),(∀ r∈rows,r.length=sz)->rows.flatten.length=rows.length*sz
 | [],_=>Ag
 | r::rs,h=>by have:=VH rs (λx hx=>h x (by simp[hx]));simp only[BF,AG,this,h r Ag,Ad,Bs];omega
theorem Jll{B o:Nat}{vs:List Value}(h:K.fix B o vs)(i n:Nat)(hi:i<=vs.length):K.fix B (o+i) ((vs.drop i).take n):=by
 obtain⟨l,hg,hl⟩:=h;refine⟨l,hg,?_⟩;have hle:=congrArg List.length hl;simp only[A8,Ch]at hle;have e:(vs.drop i).take n=((l.drop (o+i)).take (vs.length-i)).take n:=by rw[<- DR,<- List.drop_take,hl]
 rw[e,List.take_take];rw[A8,Ch]
 congr 1
 omega
theorem Da{Q:Prop}(h:Q:=by simp[RepLL]):Q:=h
theorem JwJ{T:TypeId}{sz:Nat}{x:AV}{x':Value}{l h:Option Int}{lo hi:Option Value}(hT:sliceB P T sz=true)(hx:Rep K x x')
  (hl:(l=none/\lo=none)\/∃ k n,l=some n/\lo=some (.int k n)) (hh:(h=none/\hi=none)\/∃ k n,h=some n/\hi=some (.int k n)) (hv:Jan sz x l h=some v) :
  ZN P K w v (Instr.sliceAt T x' lo hi none):=by
 obtain⟨el,ti,hu,hi',hsz⟩:=Jcq hT;unfold Jan at hv;split at hv
 ·rename_i sz' tag rows;simp only[BI,V]at hv;obtain⟨⟨h0,h1,h2,h3⟩,rfl⟩:=hv;simp only[Rep]at hx;obtain⟨base,cap,rfl,hlc,hs,hr⟩:=hx;have hb:=Jid (P:=P) (w:=w) (isSlice:=true) (len:=rows.length) (cap:=cap) hlc hl hh h0 h1 h2;generalize hli:(l.getD 0).toNat=i at *;generalize hji:(h.getD (rows.length:Int)).toNat=j at *;have hij:i<=j:=O;have hjr:j<=rows.length:=O;have hlen:((rows.drop i).take (j-i)).length=j-i:=AR;have hrun:(Instr.sliceAt T (.slice base rows.length cap) lo hi none).run P w=.ok (.slice (if cap=i then base else base.map (·.add (i*sz))) (j-i) (cap-i)) w:=by simp[Instr.sliceAt,Instr.slice,run_underlying hu,hb,sizeOf,typeInfo,hi',hsz]
  refine⟨_,hrun,?_⟩;simp only[Rep];refine⟨_,_,by rw[hlen],by rw[hlen];omega,λr hr'=>hs r (CM (List.mem_of_mem_take hr')),?_⟩;rcases hr with⟨rfl,rfl,rfl⟩ |⟨B,o,vs,rfl,hf,hrl,ht⟩
  ·left;refine⟨Ag,Ag,O⟩
  ·right;have hlv:=(RepLL.flat.1 hrl).length;have hfl:rows.flatten.length=rows.length*sz':=VH rows (λr hr'=>(hs r hr').1);by_cases hci:cap=i
   ·
    have e1:(rows.drop i).take (j-i)=[]:=by rw[CE O];simp
    rw[if_pos hci,e1];refine⟨B,o,[],rfl,?_,Da,?_⟩
    ·obtain⟨l',hg,hl'⟩:=hf;exact⟨l',hg,Ag⟩
    ·refine⟨ht.1,?_⟩;replace ht:=ht.2;split
     ·cases tag with
      | full=>simp[Ghost.tagIn]at ht |-;omega
      | row b e=>exact⟨ht.1,λh=>absurd h AR⟩
      | still=>exact ht
      | dead=>trivial
     ·trivial
   ·rw[if_neg hci];by_cases hszr:sz'=sz
    ·subst hszr;refine⟨B,o+i*sz',(vs.drop (i*sz')).take ((j-i)*sz'),by simp[Ya],Jll hf _ _ ?_,?_,?_⟩
     ·rw[hlv,hfl];exact BV _ O
     ·rw[RepLL.flat,JeD _ (λr hr'=>(hs r (CM hr')).1),Y6 _ (λr hr'=>(hs r hr').1)];exact((RepLL.flat.1 hrl).drop _).take _
     ·rw[hlen];refine⟨ht.1,?_⟩;replace ht:=ht.2;split
      ·rename_i hhl;have hj:j=rows.length:=O;cases tag with
       | full=>simp only[Ghost.tagIn]at ht |-;omega
       | still=>exact ht
       | dead=>trivial
       | row b e'=>
        refine⟨ht.1,λhlt=>?_⟩;have hlt2:rows.length<cap:=O;obtain⟨E,size,l',ha,hg,hle,hl',hs'⟩:=ht.2 hlt2;clear ht;have hm1:rows.length*sz'=i*sz'+(j-i)*sz':=by rw[<- Bs];congr 1;omega
        have hm2:cap*sz'=i*sz'+(cap-i)*sz':=by rw[<- Bs];congr 1;omega
        refine⟨E,size,l',ha,hg,hle,?_,?_⟩
        ·rw[hl',hm1];omega
        ·rw[hm2]at hs';omega
      ·trivial
    ·have hnil:rows=[]:=h3.resolve_left hszr;subst hnil;have hi0:i=0:=by simp at hjr;omega
     have hj0:j=0:=by simp at hjr;omega
     subst hi0 hj0;refine⟨B,o,[],by simp[Addr.add],?_,Da,?_⟩
     ·obtain⟨l',hg,hl'⟩:=hf;exact⟨l',hg,Ag⟩
     ·refine⟨ht.1,?_⟩;replace ht:=ht.2;split
      ·simpa using ht
      ·trivial
 ·simp at hv
theorem Jgn{T:TypeId}{sz:Nat}{x:AV}{x' i':Value}{k:IntKind}{n:Int}(hT:sliceB P T sz=true)(hx:Rep K x x')(hi:i'=.int k n)
  (hv:(match x with
   | .list sz' _ rows=>if 0<=n/\sz'=sz then(rows[n.toNat]?).map AV.ref else none
   | .arr m off sz' len=>if 0<=n/\n<len/\sz'=sz then some (.ptr m (off+n.toNat*sz))else none
   | _=>none)=some v):ZN P K w v (Instr.indexAt T x' i'):=by
 obtain⟨el,ti,hu,hi',hsz⟩:=Jcq hT;subst hi;cases x <;> simp only[reduceCtorEq]at hv
 case list sz' tag rows=>
  split at hv
  ·rename_i hc;obtain⟨h0,rfl⟩:=hc;simp only[BN]at hv;obtain⟨row,hrow,rfl⟩:=hv;have hlt:=(Ac.1 hrow).1;simp only[Rep]at hx;obtain⟨base,cap,rfl,hlc,hs,hr⟩:=hx;rcases hr with⟨rfl,rfl,rfl⟩ |⟨B,o,vs,rfl,hf,hrl,ht⟩
   ·simp at hlt
   ·have hfl:=VH rows (λr hr'=>(hs r hr').1);have hlv:=(RepLL.flat.1 hrl).length;have hmem:=Aq hrow;refine⟨.pointer (some ⟨B,o+n.toNat*sz',none⟩),?_,?_⟩
    ·simp only[Instr.indexAt,asIntOf,A6,Bg,AW,run_underlying hu];simp only[Dl,AT,if_false,CJ,A6,VU hi',AW,Bg,hsz,Ya];rw[if_pos O]
    ·simp only[Rep];refine⟨B,_,(vs.drop (n.toNat*sz')).take sz',rfl,Jll hf _ _ ?_,?_⟩
     ·rw[hlv,hfl];exact BV _ O
     ·have e1:rows.flatten.drop (n.toNat*sz')=row++(rows.drop (n.toNat+1)).flatten:=by
       rw[<- Y6 rows (λr hr'=>(hs r hr').1),AY hlt];rw[BF]
       congr 1
       have:=Ab hlt;rw[this]at hrow;simpa using hrow
      have h1:=((RepLL.flat.1 hrl).drop (n.toNat*sz')).take sz';rw[e1,BM (by rw[(hs row hmem).1];omega),AB (by rw[(hs row hmem).1];omega)]at h1;exact h1
  ·simp at hv
 case arr m off sz' len=>
  split at hv
  ·rename_i hc;obtain⟨h0,h1,rfl⟩:=hc;simp only[V]at hv;subst hv;simp only[Rep]at hx;obtain⟨B,cap,hm,_,rfl⟩:=hx;refine⟨.pointer (some ⟨B,off+n.toNat*sz',none⟩),?_,by simp only[Rep];exact⟨B,hm,rfl⟩⟩;simp only[Instr.indexAt,asIntOf,A6,Bg,AW,run_underlying hu];simp only[Dl,AT,if_false,CJ,A6,VU hi',AW,Bg,hsz,Ya];rw[if_pos O]
  ·simp at hv
theorem JwK{T:TypeId}{s:Jk}{k:IntKind}{n:Int}{b:UInt8}(hT:Jew P T=true)(h0:0<=n)(hv:s[n.toNat]? = some b) :
  (Instr.index T (.string ⟨s.toArray⟩) (.int k n)).run P w=.ok (.int .u8 b.toNat) w:=by
 have hlt:=(Ac.1 hv).1;have hb:(⟨s.toArray⟩:ByteArray)[n.toNat]? = some b:=by
  have h2:n.toNat<(⟨s.toArray⟩:ByteArray).size:=by rw[Jez];exact hlt
  rw[Ab hlt,V]at hv;rw[getElem?_pos (⟨s.toArray⟩:ByteArray) n.toNat h2,<- hv];rfl
 simp[Instr.index,asIntOf,run_underlying (Jap hT),h0,hb]
theorem JaW{T:TypeId}{f:Nat}{fd:Field}(hs:Ja8 P T f=some fd):∃ fs,P.underlying T=some (.struct fs)/\fs[f]? = some fd:=by
 unfold Ja8 at hs;split at hs
 ·rename_i fs hfs;exact⟨fs,hfs,hs⟩
 ·simp at hs
theorem JaN{T:TypeId}{f off:Nat}{fd:Field}{i:TypeInfo}{x:AV}{x':Value}(hs:Ja8 P T f=some fd)(ho:fd.offset=off)(hi:P.info? fd.type=some i)(hz:i.size≠0)
  (hx:Rep K x x') (hv:(match x with |.ptr n o=>some (.ptr n (o+off)) |.ref cs=>if off<=cs.length then some (.ref (cs.drop off))else none |_=>none)=some v) :
  ZN P K w v (Instr.fieldAt T x' f):=by
 obtain⟨fs,hu,hfd⟩:=JaW hs;have hrun:∀ B o,(Instr.fieldAt T (.pointer (some ⟨B,o,none⟩)) f).run P w=.ok (.pointer (some ⟨B,o+off,none⟩)) w:=by intro B o;simp only[Instr.fieldAt,A6,run_underlying hu,AW,hfd,Instr.sureAddr,Bg,fieldPlace,VU hi];rw[if_neg hz];simp[Ya,ho]
 cases x <;> simp only[V,BI,reduceCtorEq]at hv
 case ptr n o=>subst hv;simp only[Rep]at hx;obtain⟨B,hm,rfl⟩:=hx;exact⟨_,hrun B o,by simp only[Rep];exact⟨B,hm,rfl⟩⟩
 case ref cs=>
  obtain⟨hl,rfl⟩:=hv;simp only[Rep]at hx;obtain⟨B,o,vs,rfl,hf,hr⟩:=hx;refine⟨_,hrun B o,?_⟩;simp only[Rep];refine⟨B,o+off,vs.drop off,rfl,?_,hr.drop off⟩;have:=Jll hf off (vs.length-off) (by rw[hr.length];exact hl)
  rwa [AB Ag]at this
theorem Jr6{T:TypeId}{k:Option Nat}{off:Nat}{cs:List AV}{vs:List Value}(hk:Jco P T k=true)(hr:RepL K cs vs)
  (hv:(match (generalizing:=false) k with |none=>cs[off]? |some m=>if off+m<=cs.length then some (AV.agg ((cs.drop off).take m))else none)=some v) :
  ZN P K w v (part T vs.toArray off):=by
 unfold Jco at hk;split at hk
 ·rename_i d i hd hi;by_cases hrow:d.isRow=true
  ·rw[if_pos hrow]at hk;have hk':k=some i.size:=by simpa using hk
   subst hk';simp only[BI,V]at hv;obtain⟨hle,rfl⟩:=hv;have hagg:(isAgg T).run P w=.ok true w:=by unfold isAgg;rw[A6,run_underlying hd w];cases d <;> simp_all[TypeDesc.isRow]
   refine⟨.agg ((vs.drop off).take i.size).toArray,?_,by simp only[Rep];exact⟨_,rfl,(hr.drop off).take _⟩⟩;simp[part,hagg,VU hi]
  ·rw[if_neg hrow]at hk;have hk':k=none:=by simpa using hk
   subst hk';simp only at hv;obtain⟨u,hu,_,h2⟩:=hr.get off v hv;have hagg:(isAgg T).run P w=.ok false w:=by unfold isAgg;rw[A6,run_underlying hd w];cases d <;> simp_all[TypeDesc.isRow]
   exact⟨u,by simp[part,hagg,hu],h2⟩
 ·simp at hk
theorem JwL{T:TypeId}{f off:Nat}{k:Option Nat}{fd:Field}{cs:List AV}{x':Value}(hs:Ja8 P T f=some fd)(ho:fd.offset=off)(hk:Jco P fd.type k=true)
  (hx:Rep K (.agg cs) x') (hv:(match (generalizing:=false) k with |none=>cs[off]? |some m=>if off+m<=cs.length then some (AV.agg ((cs.drop off).take m))else none)=some v) :
  ZN P K w v (Instr.field T x' f):=by
 obtain⟨fs,hu,hfd⟩:=JaW hs;simp only[Rep]at hx;obtain⟨vs,rfl,hr⟩:=hx;obtain⟨v',h1,h2⟩:=Jr6 (P:=P) (w:=w) hk hr hv;refine⟨v',?_,h2⟩;subst ho;simp[Instr.field,run_underlying hu,hfd,asAgg,h1]
theorem Jfx{T et:TypeId}(h:JoP P T=some et):∃ kt,P.underlying T=some (.map kt et)/\P.underlying kt=some .string:=by
 unfold JoP at h;split at h
 ·rename_i kt et' hu;simp only[BI,V]at h;obtain⟨h1,rfl⟩:=h;exact⟨kt,hu,Jap h1⟩
 ·simp at h
theorem Jfy(s k:Jk):((⟨s.toArray⟩:ByteArray) ==⟨k.toArray⟩)=(s == k):=by
 show(s.toArray == k.toArray)=(s == k)
 rw[Bool.eq_iff_iff,beq_iff_eq,beq_iff_eq];simp
theorem JeE{s:Jk}:∀{es:List (Jk×AV)} {ms:List MapEntry} {v:AV} (i:Nat),RepM K es ms->Vn es s=some v ->
  ∃ j u,Instr.findNow .string (.string ⟨s.toArray⟩) ms i=some (some (i+j,u))/\Rep K v u/\(∃ m,ms[j]? = some m/\m.key=.string ⟨s.toArray⟩)
 | [],_,_,_,_,h=>by simp[Vn]at h
 |(k,a)::es,ms,v,i,hr,h=>by
  simp only[RepM]at hr;obtain⟨m,ms',rfl,hk,hv,hr'⟩:=hr;simp only[Vn]at h;by_cases hks:k=s
  ·subst hks;simp only[if_true,V]at h;subst h;refine⟨0,m.val,?_,hv,m,rfl,hk⟩;simp[Instr.findNow,Instr.sameNow,hk,Jfy]
  ·rw[if_neg hks]at h;obtain⟨j,u,h1,h2,m',h3,h4⟩:=JeE (i+1) hr' h;refine⟨j+1,u,?_,h2,m',by simpa using h3,h4⟩;have hne:((⟨s.toArray⟩:ByteArray) ==⟨k.toArray⟩)=false:=by rw[Jfy,beq_eq_false_iff_ne];exact λheq=>hks heq.symm
   simp only[Instr.findNow,Instr.sameNow,hk,hne];rw[h1]
   congr 3
   omega
theorem JeF{s:Jk}:∀{es:List (Jk×AV)} {ms:List MapEntry} (i:Nat),RepM K es ms->Vn es s=none ->
  Instr.findNow .string (.string ⟨s.toArray⟩) ms i=some none
 | [],ms,i,hr,_=>by simp only[RepM]at hr;subst hr;rfl
 |(k,a)::es,ms,i,hr,h=>by
  simp only[RepM]at hr;obtain⟨m,ms',rfl,hk,hv,hr'⟩:=hr;simp only[Vn]at h;by_cases hks:k=s
  ·rw[if_pos hks]at h;cases h
  ·rw[if_neg hks]at h;have hne:((⟨s.toArray⟩:ByteArray) ==⟨k.toArray⟩)=false:=by rw[Jfy,beq_eq_false_iff_ne];exact λheq=>hks heq.symm
   simp only[Instr.findNow,Instr.sameNow,hk,hne];exact JeF (i+1) hr' h
theorem Jlm{T:TypeId}{s:Jk}(b:Bool)(n:Nat)(h:P.underlying T=some .string):(Instr.checkKey b (n+1) T (.string ⟨s.toArray⟩)).run P w=.ok () w:=by simp[Instr.checkKey,run_underlying h]
theorem YD{T:TypeId}{s:Jk}(b:Bool)(h:P.underlying T=some .string):(Instr.checkKey b 10000 T (.string ⟨s.toArray⟩)).run P w=.ok () w:=
 Jlm b 9999 h
theorem Jfz{T:TypeId}{s:Jk}{es:List (Jk×AV)}{ms:List MapEntry}{v:AV}(h:P.underlying T=some .string)(hr:RepM K es ms)(hv:Vn es s=some v) :
  ∃ j u,(Instr.findKey T (.string ⟨s.toArray⟩) ms).run P w=.ok (some (j,u)) w/\Rep K v u/\(∃ m,ms[j]? = some m/\m.key=.string ⟨s.toArray⟩):=by
 obtain⟨j,u,h1,h2,h3⟩:=JeE (K:=K) 0 hr hv;refine⟨j,u,?_,h2,h3⟩;simp[Instr.findKey,run_underlying h,h1]
theorem Ja9{T:TypeId}{s:Jk}{es:List (Jk×AV)}{ms:List MapEntry}(h:P.underlying T=some .string)(hr:RepM K es ms)(hv:Vn es s=none) :
  (Instr.findKey T (.string ⟨s.toArray⟩) ms).run P w=.ok none w:=by
 simp[Instr.findKey,run_underlying h,JeF (K:=K) 0 hr hv]
theorem Jaq{B ck:Nat}{ms:Array MapEntry}(h:w.heap[B]? = some (.map ms ck)):(getObj B).run P w=.ok (.map ms ck) w:=by simp[getObj,Sem.run,h]
theorem JmP{T et:TypeId}{i:TypeInfo}{z:Value}{zero m:AV}{s:Jk}{ok:Bool}{m':Value}(R:Rel K S w)(hT:JoP P T=some et)(hi:P.info? et=some i)(hz:i.zero=some z)(hzr:ZY zero z=true)
  (hm:Rep K m m')
  (hv:(match m with
   | .map n=>(match S.heap[n]? with
    | some (.map es)=>(match Vn es s with
     | some v=>some (if ok then AV.tup [v,.bool true] else v)
     | none=>some (if ok then AV.tup [zero,.bool false] else zero))
    | _=>none)
   | .nilm=>some (if ok then AV.tup [zero,.bool false] else zero)
   | _=>none)=some v) :
  ZN P K w v (Instr.lookup T m' (.string ⟨s.toArray⟩) ok):=by
 obtain⟨kt,hu,hk⟩:=Jfx hT;have hzr':=Jc8 K _ _ hzr;have fin:∀(x:AV) (u:Value) (b:Bool),Rep K x u->Rep K (if ok then AV.tup [x,.bool b] else x) (if ok then .tuple #[u,.bool b] else u):=by
  intro x u b hx;cases ok
  ·simpa using hx
  ·simp only[if_true,Rep];exact⟨[u,.bool b],rfl,by simp only[RepT,Rep];exact⟨u,_,rfl,hx,_,_,rfl,rfl,rfl⟩⟩
 cases m <;> simp only[V,reduceCtorEq]at hv
 case nilm=>subst hv;simp only[Rep]at hm;subst hm;refine⟨_,?_,fin zero z false hzr'⟩;simp[Instr.lookup,run_underlying hu,YD _ hk,Instr.findKey,run_underlying hk,Instr.findNow,Xl hi hz]
 case map n=>
  simp only[Rep]at hm;obtain⟨B,hmB,rfl⟩:=hm;cases hb:S.heap[n]? with
  | none=>simp[hb]at hv
  | some b=>
   cases b with
   | cells cs=>simp[hb]at hv
   | map es=>
    simp only[hb]at hv;obtain⟨ms,ck,hw,hr⟩:=R.maps n B es hmB hb;cases hl:Vn es s with
    | some x=>simp only[hl,V]at hv;subst hv;obtain⟨j,u,h1,h2,_⟩:=Jfz (P:=P) (w:=w) hk hr hl;refine⟨_,?_,fin x u true h2⟩;simp[Instr.lookup,run_underlying hu,Jaq hw,YD _ hk,h1]
    | none=>simp only[hl,V]at hv;subst hv;have h1:=Ja9 (P:=P) (w:=w) hk hr hl;refine⟨_,?_,fin zero z false hzr'⟩;simp[Instr.lookup,run_underlying hu,Jaq hw,YD _ hk,h1,Xl hi hz]
theorem Jj8{T t:TypeId}{i:TypeInfo}{z:Value}{zero x:AV}{x':Value}(hT:P.concrete t=true)(hi:P.info? t=some i)(hz:i.zero=some z)(hzr:ZY zero z=true)(hx:Rep K x x')
  (hv:(match x with
   | .iface t' v=>some (if t'=t then AV.tup [v,.bool true] else .tup [zero,.bool false])
   | .nili=>some (.tup [zero,.bool false])
   | _=>none)=some v):ZN P K w v (Instr.typeAssert x' T t true):=by
 have hzr':=Jc8 K _ _ hzr;have fin:∀(x:AV) (u:Value) (b:Bool),Rep K x u->Rep K (AV.tup [x,.bool b]) (.tuple #[u,.bool b]):=by intro x u b hx;simp only[Rep];exact⟨[u,.bool b],rfl,by simp only[RepT,Rep];exact⟨u,_,rfl,hx,_,_,rfl,rfl,rfl⟩⟩
 cases hd:P.underlying t with
 | none=>simp[Program.concrete,hd]at hT
 | some d=>
  cases x <;> simp only[V,reduceCtorEq]at hv
  case nili=>subst hv;simp only[Rep]at hx;subst hx;refine⟨_,?_,fin zero z false hzr'⟩;cases d <;> first |(simp[Program.concrete,hd]at hT;done) |simp[Instr.typeAssert,run_underlying hd,Xl hi hz]
  case iface t' y=>
   simp only[Rep]at hx;obtain⟨u,rfl,hy⟩:=hx;by_cases htt:t'=t
   ·subst htt;simp only[if_true]at hv;subst hv;refine⟨_,?_,fin y u true hy⟩;cases d <;> first |(simp[Program.concrete,hd]at hT;done) |simp[Instr.typeAssert,run_underlying hd]
   ·rw[if_neg htt]at hv;subst hv;refine⟨_,?_,fin zero z false hzr'⟩;cases d <;> first |(simp[Program.concrete,hd]at hT;done) |simp[Instr.typeAssert,run_underlying hd,htt,Xl hi hz]
end ops
variable {P:Program} {K:Ghost} {S:St} {w:World} {e:V8} {a:Act} {v:AV}
theorem Jtq{T:TypeId}{n sz:Nat}{ps:Array (Nat×Operand)}{xs:List Opd}{vs:List AV}{rows:List (List AV)}(R:Rel K S w)(E:EnvRep K e a.tmps)
  (hT:Jeu P T sz=true) (hs:Jlh 0 ps.toList xs=true) (hn:xs.length=n) (hb:n*sz<=16777216) (h0:0<sz) (hv:X9 xs e=some vs) (hr:Yx sz vs=some rows) (X:Nat->Prop) :
  ∃ v' K' w',(Instr.buildSlice T n (ps.map λ(i,x)=>(i,a.eval x))).run P w=.ok v' w'/\Rep K' (.list sz .full rows) v'/\Rel K' S w'/\Step K X w K' w':=by
 obtain⟨el,ti,z,hu,hi,hsz,hz,hzs⟩:=Jev hT;obtain⟨fl,hfl,hrf,hrl,hall⟩:=Jgm hr;have hvl:vs.length=n:=by
  rw[<- hn];clear hs hr hrl hfl hn hb;induction xs generalizing vs with
  | nil=>simp only[X9,V]at hv;subst hv;rfl
  | cons x xs ih=>
   simp only[X9]at hv;cases hx:x.val e with
   | none=>simp[hx]at hv
   | some u=>
    cases hxs:X9 xs e with
    | none=>simp[hx,hxs]at hv
    | some us=>simp only[hx,hxs,V]at hv;subst hv;simp[ih hxs]
 by_cases hn0:n=0
 ·
  have hvs:vs=[]:=by cases vs <;> simp_all
  have hrows:rows=[]:=by cases rows <;> simp_all
  have hps:ps=#[]:=by
   have:xs=[]:=by cases xs <;> simp_all
   subst this;cases hl:ps.toList with
   | nil=>simpa using hl
   | cons y ys=>rw[hl]at hs;simp[Jlh]at hs
  subst hps;subst hrows;subst hn0;obtain⟨K',⟨hg,ha0⟩,hm,R',hst⟩:=Jql R #[] el;refine⟨.slice (some ⟨w.heap.size,0,none⟩) 0 0,K',_,?_,?_,R',hst X⟩
  ·simp[Instr.buildSlice,run_underlying hu,VU hi,Instr.fill,newRow,show Array.range 0=#[] from rfl]
  ·simp only[Rep];exact⟨_,0,rfl,Ag,Ag,.inr ⟨w.heap.size,0,[],rfl,⟨[],by simpa using hg,Ag⟩,Da,⟨λx hx=>(by rw[ha0]at hx;cases hx),by simp[Ghost.tagIn]⟩⟩⟩
 ·have hmul:n*sz≠0:=by intro h;rcases DL.1 h with h |h <;> omega
  obtain⟨cells,hf,new,hnew,hrep⟩:=Jib E (sz:=sz) 0 ((Array.range (n*sz)).map (z.cells[· % z.cells.size]!)) [] hs hv hfl Ag Ag (by simp[hvl]);have hnew':cells.toList=new:=by simpa using hnew
  obtain⟨K',⟨hg,ha0⟩,hm,R',hst⟩:=Jql R cells el;refine⟨.slice (some ⟨w.heap.size,0,none⟩) n n,K',_,?_,?_,R',hst X⟩
  ·have hf':Instr.fill (λi=>some (i*ti.size,ti.size)) ((Array.range (n*ti.size)).map (z.cells[· % z.cells.size]!)) (ps.map λ(i,x)=>(i,a.eval x)).toList=some cells:=by rw[hsz];simpa using hf
   have hb':¬ (16777216<n*ti.size):=by rw[hsz];omega
   have hm':¬ (n*ti.size=0):=by rw[hsz];exact hmul
   simp only[Instr.buildSlice,A6,run_underlying hu,AW,VU hi,gt_iff_lt,CJ];rw[if_neg (by simpa using hb')];simp only[Bg,AW];rw[if_neg hm'];simp only[Xl hi hz,AW];rw[hf'];simp[newRow]
  ·simp only[Rep];have hx:=(hst (λ_=>False)).ext;refine⟨_,n,by rw[hrl,hvl],by rw[hrl,hvl];exact Ao _,hall,.inr ⟨w.heap.size,0,cells.toList,rfl,⟨cells.toList,hg,by rw[AA,AB (Ao _)]⟩,?_,⟨λx hx=>(by rw[ha0]at hx;cases hx),show n=rows.length by omega⟩⟩⟩;rw[RepLL.flat,hrf,hnew'];exact(RepL.ext hx _ _ hrep).canon
theorem JwM{T:TypeId}{n:Nat}{zs cs:List AV}(R:Rel K S w)(hT:JmK P T zs=true)(hS:S.heap[n]? = some (.cells cs))(hcs:cs=zs)(hm:K.m n=none) :
  ∃ v' K' w',(Instr.alloc T true (.tuple #[])).run P w=.ok v' w'/\Rep K' (.ptr n 0) v'/\Rel K' S w'/\Step K (λk=>k≠n) w K' w':=by
 obtain⟨i,z,hi,hz,hr,_⟩:=Jia K hT;subst hcs;obtain⟨K',hx,hm',R',hst⟩:=Jj5 R (t:=T) hm hS hr;refine⟨.pointer (some ⟨w.heap.size,0,none⟩),K',_,?_,?_,R',hst⟩
 ·simp[Instr.alloc,Xl hi hz,newVar,newRow]
 ·simp only[Rep];exact⟨_,hm',rfl⟩
mutual
theorem Jaj:∀(a b:AV),AV.beq a b=true->a=b
 | .ref a,.ref b,h=>by simp only[AV.beq]at h;rw[Xm a b h]
 | .agg a,.agg b,h=>by simp only[AV.beq]at h;rw[Xm a b h]
 | .tup a,.tup b,h=>by simp only[AV.beq]at h;rw[Xm a b h]
 | .iface t a,.iface u b,h=>by simp only[AV.beq,Ah,beq_iff_eq]at h;rw[h.1,Jaj a b h.2]
 | .list a t r,.list b u s,h=>by simp only[AV.beq,Ah,beq_iff_eq]at h;rw[h.1.1,h.1.2,Jgo r s h.2]
 | .func f a b,.func g c d,h=>by simp only[AV.beq,Ah,beq_iff_eq]at h;rw[h.1.1,Xm a c h.1.2,Xm b d h.2]
 | .bool a,b,h=>by cases b <;> simp[AV.beq]at h;rw[h]
 | .int k a,b,h=>by cases b <;> simp[AV.beq]at h;rw[h.1,h.2]
 | .str a,b,h=>by cases b <;> simp[AV.beq]at h;rw[h]
 | .nilp,b,h=>by cases b <;> simp[AV.beq]at h;rfl
 | .ptr _ _,b,h=>by cases b <;> simp[AV.beq]at h;rw[h.1,h.2]
 | .arr _ _ _ _,b,h=>by cases b <;> simp[AV.beq]at h;obtain⟨⟨⟨h1,h2⟩,h3⟩,h4⟩:=h;rw[h1,h2,h3,h4]
 | .nilm,b,h=>by cases b <;> simp[AV.beq]at h;rfl
 | .map _,b,h=>by cases b <;> simp[AV.beq]at h;rw[h]
 | .nilf,b,h=>by cases b <;> simp[AV.beq]at h;rfl
 | .nili,b,h=>by cases b <;> simp[AV.beq]at h;rfl
 | .undef,b,h=>by cases b <;> simp[AV.beq]at h;rfl
 | .ref _,.bool _,h |.ref _,.int _ _,h |.ref _,.str _,h |.ref _,.nilp,h |.ref _,.ptr _ _,h |.ref _,.list _ _ _,h |.ref _,.arr _ _ _ _,h |.ref _,.nilm,h |.ref _,.map _,h |.ref _,.nilf,h |.ref _,.func _ _ _,h |.ref _,.nili,h |.ref _,.iface _ _,h |.ref _,.agg _,h |.ref _,.tup _,h |.ref _,.undef,h=>by simp[AV.beq]at h
 | .agg _,.bool _,h |.agg _,.int _ _,h |.agg _,.str _,h |.agg _,.nilp,h |.agg _,.ptr _ _,h |.agg _,.ref _,h |.agg _,.list _ _ _,h |.agg _,.arr _ _ _ _,h |.agg _,.nilm,h |.agg _,.map _,h |.agg _,.nilf,h |.agg _,.func _ _ _,h |.agg _,.nili,h |.agg _,.iface _ _,h |.agg _,.tup _,h |.agg _,.undef,h=>by simp[AV.beq]at h
 | .tup _,.bool _,h |.tup _,.int _ _,h |.tup _,.str _,h |.tup _,.nilp,h |.tup _,.ptr _ _,h |.tup _,.ref _,h |.tup _,.list _ _ _,h |.tup _,.arr _ _ _ _,h |.tup _,.nilm,h |.tup _,.map _,h |.tup _,.nilf,h |.tup _,.func _ _ _,h |.tup _,.nili,h |.tup _,.iface _ _,h |.tup _,.agg _,h |.tup _,.undef,h=>by simp[AV.beq]at h
 | .iface _ _,.bool _,h |.iface _ _,.int _ _,h |.iface _ _,.str _,h |.iface _ _,.nilp,h |.iface _ _,.ptr _ _,h |.iface _ _,.ref _,h |.iface _ _,.list _ _ _,h |.iface _ _,.arr _ _ _ _,h |.iface _ _,.nilm,h |.iface _ _,.map _,h |.iface _ _,.nilf,h |.iface _ _,.func _ _ _,h |.iface _ _,.nili,h |.iface _ _,.tup _,h |.iface _ _,.agg _,h |.iface _ _,.undef,h=>by simp[AV.beq]at h
 | .list _ _ _,.bool _,h |.list _ _ _,.int _ _,h |.list _ _ _,.str _,h |.list _ _ _,.nilp,h |.list _ _ _,.ptr _ _,h |.list _ _ _,.ref _,h |.list _ _ _,.iface _ _,h |.list _ _ _,.arr _ _ _ _,h |.list _ _ _,.nilm,h |.list _ _ _,.map _,h |.list _ _ _,.nilf,h |.list _ _ _,.func _ _ _,h |.list _ _ _,.nili,h |.list _ _ _,.tup _,h |.list _ _ _,.agg _,h |.list _ _ _,.undef,h=>by simp[AV.beq]at h
 | .func _ _ _,.bool _,h |.func _ _ _,.int _ _,h |.func _ _ _,.str _,h |.func _ _ _,.nilp,h |.func _ _ _,.ptr _ _,h |.func _ _ _,.ref _,h |.func _ _ _,.iface _ _,h |.func _ _ _,.arr _ _ _ _,h |.func _ _ _,.nilm,h |.func _ _ _,.map _,h |.func _ _ _,.nilf,h |.func _ _ _,.list _ _ _,h |.func _ _ _,.nili,h |.func _ _ _,.tup _,h |.func _ _ _,.agg _,h |.func _ _ _,.undef,h=>by simp[AV.beq]at h
theorem Xm:∀(a b:List AV),AV.beqL a b=true->a=b
 | [],[],_=>rfl
 | a::as,b::bs,h=>by simp only[AV.beqL,Ah]at h;rw[Jaj a b h.1,Xm as bs h.2]
 | [],_::_,h=>by simp[AV.beqL]at h
 | _::_,[],h=>by simp[AV.beqL]at h
theorem Jgo:∀(a b:List (List AV)),AV.beqLL a b=true->a=b
 | [],[],_=>rfl
 | a::as,b::bs,h=>by simp only[AV.beqLL,Ah]at h;rw[Xm a b h.1,Jgo as bs h.2]
 | [],_::_,h=>by simp[AV.beqLL]at h
 | _::_,[],h=>by simp[AV.beqLL]at h
end
mutual
theorem CQ{Q:Prop}(h:Q:=by simp[AV.beq]):Q:=h
theorem Jcr:∀(a:AV),AV.beq a a=true
 | .ref a=>by simp only[AV.beq];exact Zq a
 | .agg a=>by simp only[AV.beq];exact Zq a
 | .tup a=>by simp only[AV.beq];exact Zq a
 | .iface t a=>by simp only[AV.beq,beq_self_eq_true,BW];exact Jcr a
 | .list a t r=>by simp only[AV.beq,beq_self_eq_true,BW];exact Jie r
 | .func f a b=>by simp only[AV.beq,beq_self_eq_true,BW,Zq a,Zq b]
 | .bool a=>CQ
 | .int k a=>CQ
 | .str a=>CQ
 | .nilp=>rfl
 | .ptr _ _=>CQ
 | .arr _ _ _ _=>CQ
 | .nilm=>rfl
 | .map _=>CQ
 | .nilf=>rfl
 | .nili=>rfl
 | .undef=>rfl
theorem Zq:∀(a:List AV),AV.beqL a a=true
 | []=>rfl
 | a::as=>by simp only[AV.beqL,Jcr a,Zq as,A0]
theorem Jie:∀(a:List (List AV)),AV.beqLL a a=true
 | []=>rfl
 | a::as=>by simp only[AV.beqLL,Zq a,Jie as,A0]
end
def QOp.makes(base:Nat):QOp->Nat->Prop
 | .alloc j _,n=>n=base+j
 | _,_=>False
theorem JmQ{K:Ghost}:∀{es:List (Jk×AV)} {ms:List MapEntry},RepM K es ms->ms.length=es.length
 | [],ms,h=>by simp only[RepM]at h;rw[h];rfl
 |(k,a)::es,ms,h=>by simp only[RepM]at h;obtain⟨m,ms',rfl,-,-,h4⟩:=h;rw[Ad,Ad,JmQ h4]
theorem JSR{o:Oper}{q:QOp}{base:Nat}(hc:JoQ P o.op q=true)(R:Rel K S w)(E:EnvRep K e a.tmps)(hv:QY q e S.heap base=some v)(hal:∀ n,q.makes base n->K.m n=none) :
  ∃ v' K' w',(execOp a.eval o).run P w=.ok (.value v') w'/\Rep K' v v'/\Rel K' S w'/\Step K (λn=>¬ q.makes base n) w K' w':=by
 have still:∀{s:Sem Value},ZN P K w v s->∃ v' K' w',(do pure (.value (<- s)):Sem Next).run P w=.ok (.value v') w'/\Rep K' v v'/\Rel K' S w'/\Step K (λn=>¬ q.makes base n) w K' w':=by rintro s ⟨v',h1,h2⟩;exact⟨v',K,w,by simp[h1],h2,R,Step.refl _ _ _⟩
 obtain⟨dst,op,type,pos,after,guard⟩:=o;simp only at hc;unfold JoQ at hc;split at hc
 ·
  simp only[QY]at hv;exact⟨_,K,w,by simp[execOp],JA E hc hv,R,Step.refl _ _ _⟩
 ·simp only[QY]at hv;exact⟨_,K,w,by simp[execOp],JA E hc hv,R,Step.refl _ _ _⟩
 ·
  simp only[Ah]at hc;obtain⟨⟨h1,h2⟩,h3⟩:=hc;simp only[QY]at hv;split at hv
  ·rename_i hcv;have hb:=JA E h1 hcv;simp only[Rep]at hb;exact⟨_,K,w,by simp[execOp,hb,asBool],JA E h2 hv,R,Step.refl _ _ _⟩
  ·rename_i hcv;have hb:=JA E h1 hcv;simp only[Rep]at hb;exact⟨_,K,w,by simp[execOp,hb,asBool],JA E h3 hv,R,Step.refl _ _ _⟩
  ·simp at hv
 ·
  rename_i T j zs;simp only[QY]at hv;split at hv
  ·rename_i cs hS;split at hv
   ·rename_i hbq;simp only[V]at hv;subst hv;obtain⟨v',K',w',h1,h2,h3,h4⟩:=JwM (P:=P) (T:=T) R hc hS (Xm _ _ hbq) (hal _ rfl);exact⟨v',K',w',by simp[execOp,h1],h2,h3,h4.mono (λn hn=>hn)⟩
   ·simp at hv
  ·simp at hv
 ·
  split at hc
  ·rename_i fs hu;split at hc
   ·rename_i places hp;simp only[Ah]at hc;obtain⟨hz,hps⟩:=hc;obtain⟨it,z,hit,hiz,hrz,_⟩:=Jia K hz;simp only[QY,BN]at hv;obtain⟨cs',hf,rfl⟩:=hv;obtain⟨vs',hf',hr'⟩:=JmL E hps hrz hf;refine still ⟨.agg vs',?_,by simp only[Rep];exact⟨vs'.toList,Ag,hr'⟩⟩;refine run_build w _ _ vs' ?_;unfold Program.built;simp only[hit,hu,hiz,hp];simpa using hf'
   ·simp at hc
  ·simp at hc
 ·
  simp only[Ah,beq_iff_eq,decide_eq_true_eq]at hc;obtain⟨⟨⟨⟨h1,h2⟩,h3⟩,h4⟩,h5⟩:=hc;simp only[QY]at hv;split at hv
  ·rename_i vs hvs;simp only[BN]at hv;obtain⟨rows,hr,rfl⟩:=hv;obtain⟨v',K',w',g1,g2,g3,g4⟩:=Jtq (P:=P) R E h1 h2 h3 h4 h5 hvs hr _;exact⟨v',K',w',by simp[execOp,g1],g2,g3,g4⟩
  ·simp at hv
 ·
  simp only[Ah]at hc;simp only[QY]at hv;split at hv
  ·rename_i x hx;obtain⟨v',h1,h2⟩:=JmJ (P:=P) R hc.1 (JA E hc.2 hx) hv;exact still ⟨v',h1,h2⟩
  ·simp at hv
 ·
  simp only[QY]at hv;split at hv
  ·rename_i n o hx;have hr:=JA E hc hx;simp only[V]at hv;subst hv;have hr':=hr;simp only[Rep]at hr';obtain⟨B,_,hb⟩:=hr';exact⟨_,K,w,by simp[execOp,hb],hb ▸ hr,R,Step.refl _ _ _⟩
  ·rename_i cs hx;have hr:=JA E hc hx;simp only[V]at hv;subst hv;have hr':=hr;simp only[Rep]at hr';obtain⟨B,o,vs,hb,_⟩:=hr';exact⟨_,K,w,by simp[execOp,hb],hb ▸ hr,R,Step.refl _ _ _⟩
  ·simp at hv
 ·
  simp only[Ah,beq_iff_eq]at hc;obtain⟨⟨⟨rfl,h2⟩,h3⟩,h4⟩:=hc;simp only[QY]at hv;split at hv
  ·rename_i x y hx hy;obtain⟨v',g1,g2⟩:=JSQ (P:=P) (w:=w) h4 (JA E h2 hx) (JA E h3 hy) hv;exact still ⟨v',g1,g2⟩
  ·simp at hv
 ·
  simp only[QY]at hv;split at hv
  ·rename_i b hx;have hr:=JA E hc hx;simp only[Rep]at hr;simp only[V]at hv;subst hv;exact still ⟨.bool (!b),by simp[hr,Op.unary],Be⟩
  ·simp at hv
 ·
  simp only[QY]at hv;split at hv
  ·rename_i k n hx;have hr:=JA E hc hx;simp only[Rep]at hr;simp only[V]at hv;subst hv;exact still ⟨.int k (k.wrap (0-n)),by simp[hr,Op.unary,Op.intArith],Be⟩
  ·simp at hv
 ·
  simp only[Ah]at hc;obtain⟨⟨h1,h2⟩,h3⟩:=hc;simp only[QY]at hv;split at hv
  ·rename_i k0 n hx;have hr:=JA E h3 hx;simp only[Rep]at hr;simp only[V]at hv;subst hv;split at h2
   ·rename_i k' hu;simp only[beq_iff_eq]at h2;subst h2;refine still ⟨_,by rw[hr];exact JED h1 hu,Be⟩
   ·simp at h2
  ·simp at hv
 ·simp only[Ah]at hc;obtain⟨⟨h1,h2⟩,h3⟩:=hc;simp only[QY]at hv;split at hv
  ·rename_i s hx;have hr:=JA E h3 hx;have hr':=hr;simp only[Rep]at hr';simp only[V]at hv;subst hv;refine still ⟨_,by rw[hr'];exact JwI h1 (Jap h2),Be⟩
  ·simp at hv
 ·
  simp only[Ah,beq_iff_eq]at hc;obtain⟨⟨rfl,h2⟩,h3⟩:=hc;simp only[QY,BN]at hv;obtain⟨x,hx,rfl⟩:=hv;exact still ⟨_,run_makeInterface w _ _ h2,by simp only[Rep];exact⟨_,rfl,JA E h3 hx⟩⟩
 ·
  simp only[Ah,beq_iff_eq]at hc;obtain⟨⟨rfl,h2⟩,h3⟩:=hc;simp only[QY]at hv;split at hv
  ·rename_i x y hx hy;simp only[V]at hv;subst hv;have r1:=Jc9 E h2 hx;have r2:=Jc9 E h3 hy;refine still ⟨_,by simp only[Instr.makeFunc];rfl,?_⟩;simp only[Rep];exact⟨_,_,by rw[<- Dd,<- Dd],r1,r2⟩
  ·simp at hv
 ·
  simp only[Ah]at hc;obtain⟨⟨⟨h1,h2⟩,h3⟩,h4⟩:=hc;simp only[QY]at hv;split at hv
  ·rename_i x l h hx hl hh;obtain⟨v',g1,g2⟩:=JwJ (P:=P) (w:=w) h1 (JA E h2 hx) (Jbx E h3 hl) (Jbx E h4 hh) hv;exact still ⟨v',by simpa using g1,g2⟩
  ·simp at hv
 ·
  simp only[Ah]at hc;obtain⟨⟨⟨h1,h2⟩,h3⟩,h4⟩:=hc;simp only[QY]at hv;split at hv
  ·rename_i x l h hx hl hh;obtain⟨v',g1,g2⟩:=Jtp (P:=P) (w:=w) h1 (JA E h2 hx) (Jbx E h3 hl) (Jbx E h4 hh) hv;exact still ⟨v',by simpa using g1,g2⟩
  ·simp at hv
 ·
  split at hc
  ·rename_i fd hs;simp only[Ah,beq_iff_eq]at hc;obtain⟨⟨h1,h2⟩,h3⟩:=hc;split at h2
   ·rename_i i hi;simp only[QY]at hv;split at hv
    ·rename_i n o hx;obtain⟨v',g1,g2⟩:=JaN (P:=P) (w:=w) hs h1 hi (by simpa using h2) (JA E h3 hx) hv;exact still ⟨v',g1,g2⟩
    ·rename_i cs hx;obtain⟨v',g1,g2⟩:=JaN (P:=P) (w:=w) hs h1 hi (by simpa using h2) (JA E h3 hx) hv;exact still ⟨v',g1,g2⟩
    ·simp at hv
   ·simp at h2
  ·simp at hc
 ·
  split at hc
  ·rename_i fd hs;simp only[Ah,beq_iff_eq]at hc;obtain⟨⟨h1,h2⟩,h3⟩:=hc;simp only[QY]at hv;split at hv
   ·rename_i cs hx;obtain⟨v',g1,g2⟩:=JwL (P:=P) (w:=w) hs h1 h2 (JA E h3 hx) hv;exact still ⟨v',g1,g2⟩
   ·simp at hv
  ·simp at hc
 ·
  simp only[Ah]at hc;obtain⟨⟨h1,h2⟩,h3⟩:=hc;simp only[QY]at hv;split at hv
  ·rename_i sz' tag rows k n hx hi;have hr:=JA E h3 hi;simp only[Rep]at hr;obtain⟨v',g1,g2⟩:=Jgn (P:=P) (w:=w) h1 (JA E h2 hx) hr hv;exact still ⟨v',g1,g2⟩
  ·rename_i m off sz' len k n hx hi;have hr:=JA E h3 hi;simp only[Rep]at hr;obtain⟨v',g1,g2⟩:=Jgn (P:=P) (w:=w) h1 (JA E h2 hx) hr hv;exact still ⟨v',g1,g2⟩
  ·simp at hv
 ·
  simp only[Ah]at hc;obtain⟨⟨h1,h2⟩,h3⟩:=hc;simp only[QY]at hv;split at hv
  ·rename_i s k n hx hi;have hr:=JA E h3 hi;have hr2:=JA E h2 hx;simp only[Rep]at hr hr2;simp only[BI,BN]at hv;obtain⟨h0,b,hb,rfl⟩:=hv;exact still ⟨_,by rw[hr,hr2];exact JwK h1 h0 hb,Be⟩
  ·simp at hv
 ·
  split at hc
  ·rename_i et hT;simp only[Ah,beq_iff_eq]at hc;obtain⟨⟨⟨h1,rfl⟩,h2⟩,h3⟩:=hc;split at h1
   ·rename_i i hi;split at h1
    ·rename_i z hz;simp only[QY]at hv;split at hv
     ·rename_i n s hm hk;have hr:=JA E h3 hk;simp only[Rep]at hr;obtain⟨v',g1,g2⟩:=JmP (P:=P) (w:=w) (s:=s) R hT hi hz h1 (JA E h2 hm) hv;exact still ⟨v',by rw[hr];exact g1,g2⟩
     ·rename_i s hm hk;have hr:=JA E h3 hk;simp only[Rep]at hr;obtain⟨v',g1,g2⟩:=JmP (P:=P) (w:=w) (s:=s) R hT hi hz h1 (JA E h2 hm) hv;exact still ⟨v',by rw[hr];exact g1,g2⟩
     ·simp at hv
    ·simp at h1
   ·simp at h1
  ·simp at hc
 ·
  simp only[Ah,beq_iff_eq]at hc;obtain⟨⟨⟨rfl,h2⟩,h3⟩,h4⟩:=hc;split at h3
  ·rename_i i hi;split at h3
   ·rename_i z hz;simp only[QY]at hv;split at hv
    ·rename_i t' y hx;obtain⟨v',g1,g2⟩:=Jj8 (P:=P) (w:=w) h2 hi hz h3 (JA E h4 hx) hv;exact still ⟨v',g1,g2⟩
    ·rename_i hx;obtain⟨v',g1,g2⟩:=Jj8 (P:=P) (w:=w) h2 hi hz h3 (JA E h4 hx) hv;exact still ⟨v',g1,g2⟩
    ·simp at hv
   ·simp at h3
  ·simp at h3
 ·
  simp only[Ah,beq_iff_eq]at hc;obtain⟨rfl,h2⟩:=hc;simp only[QY]at hv;split at hv
  ·rename_i vs hx;have hr:=JA E h2 hx;simp only[Rep]at hr;obtain⟨us,hu,hr⟩:=hr;obtain⟨u,h1,h2⟩:=hr.get _ _ hv;exact still ⟨u,by simp[Instr.extract,hu,h1],h2⟩
  ·simp at hv
 ·
  rename_i c y;split at hc
  ·rename_i hcal;split at hc
   ·rename_i x t hargs ht;simp only[Ah]at hc;obtain⟨h1,h2⟩:=hc;split at h1
    ·rename_i el hu;have hargs':c.args=#[x]:=by apply Cr;simpa using hargs
     have hrun:∀(u:Value),(execOp a.eval {dst:=dst,op:=.call c,type:=type,pos:=pos,after:=after,guard:=guard}).run P w=((Builtin.len_ c.argTypes type #[a.eval x]).run P w).andThen λv w=>.ok (.value v) w:=by intro u;simp[execOp,resolve,hcal,hargs',invoke,builtin]
     simp only[QY]at hv;split at hv
     ·rename_i sz tag rows hx;have hr:=JA E h2 hx;simp only[Rep]at hr;obtain⟨bs,cap,hb,_⟩:=hr;simp only[V]at hv;subst hv;refine⟨goInt rows.length,K,w,?_,by simp[Rep,i64,goInt],R,Step.refl _ _ _⟩;rw[hrun (.bool true),hb];simp[Builtin.len_,ht,run_underlying hu]
     ·rename_i m off sz len hx;have hr:=JA E h2 hx;simp only[Rep]at hr;obtain⟨B,cap,_,_,hb⟩:=hr;simp only[V]at hv;subst hv;refine⟨goInt len,K,w,?_,by simp[Rep,i64,goInt],R,Step.refl _ _ _⟩;rw[hrun (.bool true),hb];simp[Builtin.len_,ht,run_underlying hu]
     ·simp at hv
    ·simp at h1
   ·simp at hc
  ·simp at hc
 ·
  rename_i c y;split at hc
  ·rename_i hcal;split at hc
   ·rename_i x t hargs ht;simp only[Ah]at hc;obtain⟨h1,h2⟩:=hc;have hargs':c.args=#[x]:=by apply Cr;simpa using hargs
    have hrun:(execOp a.eval {dst:=dst,op:=.call c,type:=type,pos:=pos,after:=after,guard:=guard}).run P w=((Builtin.len_ c.argTypes type #[a.eval x]).run P w).andThen λv w=>.ok (.value v) w:=by simp[execOp,resolve,hcal,hargs',invoke,builtin]
    simp only[QY]at hv;split at hv
    ·rename_i s hx;have hr:=JA E h2 hx;simp only[Rep]at hr;simp only[V]at hv;subst hv;refine⟨goInt s.length,K,w,?_,by simp[Rep,i64,goInt],R,Step.refl _ _ _⟩;rw[hrun,hr];simp[Builtin.len_,ht,run_underlying (Jap h1),Jez]
    ·simp at hv
   ·simp at hc
  ·simp at hc
 ·
  rename_i c y;split at hc
  ·rename_i hcal;split at hc
   ·rename_i x t hargs ht;simp only[Ah]at hc;obtain⟨h1,h2⟩:=hc;obtain⟨et,het⟩:=BQ.1 h1;obtain⟨kt,hu,-⟩:=Jfx het;have hargs':c.args=#[x]:=by apply Cr;simpa using hargs
    have hrun:(execOp a.eval {dst:=dst,op:=.call c,type:=type,pos:=pos,after:=after,guard:=guard}).run P w=((Builtin.len_ c.argTypes type #[a.eval x]).run P w).andThen λv w=>.ok (.value v) w:=by simp[execOp,resolve,hcal,hargs',invoke,builtin]
    simp only[QY]at hv;split at hv
    ·rename_i n hx;have hr:=JA E h2 hx;simp only[Rep]at hr;obtain⟨B,hmB,hr⟩:=hr;split at hv
     ·rename_i es hes;obtain⟨ms,ck,hw,hrm⟩:=R.maps n B es hmB hes;have hlen:=JmQ hrm;simp only[V]at hv;subst hv;refine⟨goInt es.length,K,w,?_,by simp[Rep,i64,goInt],R,Step.refl _ _ _⟩;rw[hrun,hr];simp only[Bu]at hlen;simp[Builtin.len_,ht,run_underlying hu,Jaq hw,hlen]
     ·simp at hv
    ·rename_i hx;have hr:=JA E h2 hx;simp only[Rep]at hr;simp only[V]at hv;subst hv;refine⟨goInt 0,K,w,?_,by simp[Rep,i64,goInt],R,Step.refl _ _ _⟩;rw[hrun,hr];simp[Builtin.len_,ht,run_underlying hu]
    ·simp at hv
   ·simp at hc
  ·simp at hc
 ·
  rename_i c x' y';split at hc
  ·rename_i hcal;split at hc
   ·rename_i x y hargs;simp only[Ah]at hc;obtain⟨h1,h2⟩:=hc;have hargs':c.args=#[x,y]:=by apply Cr;simpa using hargs
    simp only[QY]at hv;split at hv
    ·rename_i p q hx hy;have hr:=JA E h1 hx;have hr2:=JA E h2 hy;simp only[Rep]at hr hr2;simp only[V]at hv;subst hv;refine⟨.int .i64 (if q<p then q else p),K,w,?_,Be,R,Step.refl _ _ _⟩;simp only[execOp,resolve,hcal,hargs',invoke,builtin,List.map_toArray,Ap,AC,hr,hr2,Builtin.min_,List.foldlM_cons,List.foldlM_nil,Builtin.min2,A6,Bg,AW]
    ·simp at hv
   ·simp at hc
  ·simp at hc
 ·simp at hc
variable {P:Program} {K:Ghost} {S:St} {w:World} {e:V8} {a:Act} {v:AV}
structure Wr(w w':World)(B:Nat)(vs:Array Value)(t:TypeId):Prop where
 os:w'.os=w.os
 tape:w'.tape=w.tape
 output:w'.output=w.output
 size:w'.heap.size=w.heap.size
 block:w'.heap[B]? = some (.cells vs t (0,0))
 other:∀ k,k≠B->w'.heap[k]? = w.heap[k]?
theorem Wr.setCells{B:Nat}{t:TypeId}:∀(vs:List Value) (o:Nat) (w:World) (cur:Array Value),w.heap[B]? = some (.cells cur t (0,0))->o+vs.length<=cur.size ->
  ∃ cur',Wr w (w.setCells B o vs) B cur' t/\cur'.toList=cur.toList.take o++vs++cur.toList.drop (o+vs.length)/\cur'.size=cur.size
 | [],o,w,cur,h,_=>⟨cur,⟨rfl,rfl,rfl,rfl,h,λ_ _=>rfl⟩,Ag,rfl⟩
 | v::vs,o,w,cur,h,hle=>by
  simp only[Ad]at hle;have hB:=(AQ.1 h).1;have h1:(w.setCell ⟨B,o,none⟩ v).heap[B]? = some (.cells (cur.setIfInBounds o v) t (0,0)):=by simp only[World.setCell,CF,h];simp
  obtain⟨cur',hw,hl,hs⟩:=Wr.setCells vs (o+1) (w.setCell ⟨B,o,none⟩ v) _ h1 AR;refine⟨cur',⟨hw.os,hw.tape,hw.output,?_,hw.block,?_⟩,?_,by rw[hs];simp⟩
  ·rw[World.setCells,hw.size];simp[World.setCell]
  ·intro k hk;rw[World.setCells,hw.other k hk];simp only[World.setCell,CF];rw[if_neg (λh=>hk h.symm)]
  ·rw[hl];have hlt:o<cur.toList.length:=AR;have e1:(cur.setIfInBounds o v).toList=cur.toList.take o++v::cur.toList.drop (o+1):=by simp only[DW];rw[CC,if_pos hlt]
   have hl':(cur.toList.take o).length=o:=AR;rw[e1];have t1:List.take (o+1) (cur.toList.take o++v::cur.toList.drop (o+1))=cur.toList.take o++[v]:=by rw[CG,AB O,hl'];simp
   have t2:List.drop (o+1+vs.length) (cur.toList.take o++v::cur.toList.drop (o+1))=cur.toList.drop (o+(v::vs).length):=by
    rw[DI,CE (by rw[hl'];omega),hl'];rw[show o+1+vs.length-o=vs.length+1 by omega];simp only[Az,DR,Au,Ad]
    congr 1;omega
   rw[t1,t2];simp
theorem Rel.write{n B:Nat}{blk:Blk}{vs':Array Value}{t:TypeId}{cs':List AV}{w':World}(R:Rel K S w)(hm:K.m n=some B)(hb:S.heap[n]? = some blk)
  (hW:Wr w w' B vs' t) (hr:RepL K cs' vs'.toList):Rel K {S with heap:=S.heap.set n (.cells cs')} w':=by
 have hn:=(Ac.1 hb).1;refine⟨?_,R.inj,R.sep,?_,?_,?_,?_⟩
 ·intro k B' hk;simpa using R.dom k B' hk
 ·intro k B' cs hk hc;by_cases hkn:k=n
  ·subst hkn;rw[hm]at hk;cases hk;simp only[A3 hn,V,Blk.cells.injEq]at hc;subst hc;exact⟨vs',t,hW.block,hr⟩
  ·rw[Bf (λh=>hkn h.symm)]at hc;obtain⟨us,t',h1,h2⟩:=R.cells k B' cs hk hc;refine⟨us,t',?_,h2⟩;rw[hW.other B' (λh=>hkn (R.inj k n B (h ▸ hk) hm))];exact h1
 ·intro k B' es hk hc;by_cases hkn:k=n
  ·subst hkn;simp only[A3 hn,V,reduceCtorEq]at hc
  ·rw[Bf (λh=>hkn h.symm)]at hc;obtain⟨us,t',h1,h2⟩:=R.maps k B' es hk hc;refine⟨us,t',?_,h2⟩;rw[hW.other B' (λh=>hkn (R.inj k n B (h ▸ hk) hm))];exact h1
 ·intro B' l hg;obtain⟨us,t',h1,h2⟩:=R.rows B' l hg;refine⟨us,t',?_,h2⟩;rw[hW.other B' (λh=>by rw[h,R.sep n B hm]at hg;cases hg)];exact h1
 ·intro B' b E sz size ha;obtain⟨l,hg,⟨us,t',h1,h2⟩,hrow⟩:=R.grow B' b E sz size ha;refine⟨l,hg,⟨us,t',?_,h2⟩,hrow⟩;rw[hW.other B' (λh=>by rw[h,R.sep n B hm]at hg;cases hg)];exact h1
theorem Step.write{n B:Nat}{vs':Array Value}{t:TypeId}{w':World}(hm:K.m n=some B)(hW:Wr w w' B vs' t)(X:Nat->Prop):Step K X w K w':=
 ⟨Ext.refl K,hW.os,hW.tape,hW.output,De hW.size.symm,λB' _ h1 _=>hW.other B' (λh=>h1 n (h ▸ hm)),λ_ _ h1 h2=>⟨h1,h2⟩,λ_ _ h=>h,λ_ x h=>.inl ⟨x,h⟩⟩
theorem Jqm{T:TypeId}{k n off:Nat}{i:TypeInfo}{x:AV}{p x':Value}{cs:List AV}(R:Rel K S w)(hi:P.info? T=some i)(hk:i.size=k)(hp:Rep K (.ptr n off) p)(hx:Rep K x x')
  (hb:S.heap[n]? = some (.cells cs)) (h1:x.cells.length=k) (h2:x.okv=true) (h3:off+k<=cs.length) (X:Nat->Prop) :
  ∃ w',(Instr.storeAt T p x').run P w=.ok () w'/\Rel K {S with heap:=S.heap.set n (.cells (overlay cs off x.cells))} w'/\Step K X w K w':=by
 simp only[Rep]at hp;obtain⟨B,hm,rfl⟩:=hp;obtain⟨vs,t,hw,hr⟩:=R.cells n B cs hm hb;have hc:=hx.cells h2;have hcl:=hc.length;have hrl:=hr.length;simp only[Bu]at hcl hrl;obtain⟨cur',hW,hl,hs⟩:=Wr.setCells (B:=B) (t:=t) x'.cells.toList off w vs hw AR;refine⟨w.setCells B off x'.cells.toList,?_,?_,Step.write hm hW X⟩
 ·have h:=run_storeCells_cells (P:=P) B off x'.cells.toList 0 w (λj hj=>by rw[AE,Y5 hw];simp at hj |-;omega) (λj hj=>Jda hw _) (λu hu=>hc.oneCell u hu);simp only[AE]at h;simp only[Instr.storeAt,Instr.sureAddr,A6,Bg,AW,storeVar,VU hi];rw[if_neg O];simpa using h
 ·refine R.write hm hb hW ?_;rw[hl];exact RepL.overlay hr hc
theorem Rel.grow_heap(R:Rel K S w)(b:Blk):Rel K {S with heap:=S.heap++[b]} w:=by
 refine⟨?_,R.inj,R.sep,?_,?_,R.rows,R.grow⟩
 ·intro n B hm;have:=R.dom n B hm;simp;omega
 ·intro n B cs hm hb;have:=R.dom n B hm;rw[AZ this]at hb;exact R.cells n B cs hm hb
 ·intro n B es hm hb;have:=R.dom n B hm;rw[AZ this]at hb;exact R.maps n B es hm hb
theorem Rel.none_ge(R:Rel K S w){n:Nat}(h:S.heap.length<=n):K.m n=none:=by
 cases hm:K.m n with
 | none=>rfl
 | some B=>have:=R.dom n B hm;omega
theorem JfA(R:Rel K S w){cs:List AV}{vs:Array Value}{t:TypeId}(hr:RepL K cs vs.toList) :
  ∃ K',K'.m S.heap.length=some w.heap.size/\Rel K' {S with heap:=S.heap++[.cells cs]} {w with heap:=w.heap.push (.cells vs t)}/\Step K (λn=>n<S.heap.length) w K' {w with heap:=w.heap.push (.cells vs t)}:=by
 obtain⟨K',_,hm,R',hst⟩:=Jj5 (R.grow_heap (.cells cs)) (n:=S.heap.length) (t:=t) (R.none_ge (Ao _)) Ag hr;exact⟨K',hm,R',hst.mono (λn hn h=>O)⟩
theorem Rel.more{B:Nat}{vs':Array Value}{t:TypeId}{w':World}{l new:List Value}{b E sz size n:Nat}(R:Rel K S w)(hg:K.g B=some l)(ha:K.a B=some (b,E,sz,size))
  (hS:S.rows[b]? = some E) (hl:new.length=n*sz) (hW:Wr w w' B vs' t) (hv:vs'.toList.take (l.length+new.length)=l++new) (hs:vs'.size=size) :
  ∃ K',K'.g B=some (l++new)/\K'.a B=some (b,E+n,sz,size)/\Rel K' {S with rows:=S.rows.set b (E+n)} w'/\∀ X,Step K X w K' w':=by
 have hb:=(Ac.1 hS).1;have hx:Ext K {K with g:=λB'=>if B'=B then some (l++new)else K.g B',a:=λB'=>if B'=B then some (b,E+n,sz,size)else K.a B'}:=by
  refine⟨λ_ _ h=>h,λB' l' h=>?_,λB' b' E' sz' size' h=>?_,λB' l' _ h=>?_⟩
  ·by_cases hB:B'=B
   ·subst hB;rw[hg]at h;cases h;exact⟨new,Ag⟩
   ·exact⟨[],by simp[hB,h]⟩
  ·by_cases hB:B'=B
   ·subst hB;rw[ha]at h;cases h;refine⟨E+n,Ag,O,λl1 l2 h1 h2=>?_⟩;rw[hg]at h1;cases h1;simp only[if_true,V]at h2;subst h2;simp[hl]
   ·refine⟨E',by simp[hB,h],Ao _,λl1 l2 h1 h2=>?_⟩;simp only[if_neg hB]at h2;rw[h1]at h2;cases h2;simp
  ·by_cases hB:B'=B
   ·subst hB;rw[ha]at h;cases h
   ·simp[hB,h]
 have hmB:∀ k,K.m k≠some B:=λk hk=>by rw[R.sep k B hk]at hg;cases hg
 refine⟨_,Ag,Ag,?_,λX=>⟨hx,hW.os,hW.tape,hW.output,De hW.size.symm,?_,?_,λ_ _ h=>h,λB' x hx'=>.inl ?_⟩⟩
 ·refine⟨R.dom,R.inj,?_,?_,?_,?_,?_⟩
  ·intro k B' hk;have:B'≠B:=λh=>hmB k (h ▸ hk);simp only[if_neg this];exact R.sep k B' hk
  ·intro k B' cs hk hc;obtain⟨us,t',h1,h2⟩:=R.cells k B' cs hk hc;exact⟨us,t',by rw[hW.other B' (λh=>hmB k (h ▸ hk))];exact h1,RepL.ext hx _ _ h2⟩
  ·intro k B' es hk hc;obtain⟨us,t',h1,h2⟩:=R.maps k B' es hk hc;exact⟨us,t',by rw[hW.other B' (λh=>hmB k (h ▸ hk))];exact h1,h2.ext hx⟩
  ·intro B' l' hg';simp only at hg';split at hg'
   ·rename_i h;subst h;simp only[V]at hg';subst hg';exact⟨vs',t,hW.block,by rw[AG];exact hv⟩
   ·rename_i h;obtain⟨us,t',h1,h2⟩:=R.rows B' l' hg';exact⟨us,t',by rw[hW.other B' h];exact h1,h2⟩
  ·intro B' b' E' sz' size' ha';simp only at ha';split at ha'
   ·rename_i h;subst h;simp only[V,AP]at ha';obtain⟨rfl,rfl,rfl,rfl⟩:=ha';exact⟨l++new,Ag,⟨vs',t,hW.block,hs⟩,E+n,by rw[A3 hb],Ao _⟩
   ·rename_i h;obtain⟨l',hg',⟨us,t',h1,h2⟩,r,hr,hle⟩:=R.grow B' b' E' sz' size' ha';refine⟨l',by simp[h,hg'],⟨us,t',by rw[hW.other B' h];exact h1,h2⟩,?_⟩;by_cases hbb:b'=b
    ·subst hbb;rw[hS]at hr;cases hr;exact⟨E+n,by simp only;rw[A3 hb],O⟩
    ·exact⟨r,by simp only;rw[Bf (λh=>hbb h.symm)];exact hr,hle⟩
 ·exact λB' _ h1 h2=>hW.other B' (λh=>by rw[h,hg]at h2;cases h2)
 ·intro B' _ h1 h2;refine⟨h1,?_⟩;have:B'≠B:=λh=>by rw[h,hg]at h2;cases h2
  simp only[if_neg this];exact h2
 ·simp only at hx';split at hx'
  ·rename_i h;exact⟨_,h ▸ ha⟩
  ·exact⟨_,hx'⟩
theorem Rel.more_new(R:Rel K S w){S':St}(hS:S'.heap=S.heap)(hrows:∀(b r:Nat),S.rows[b]? = some r->∃ r':Nat,S'.rows[b]? = some r'/\r<=r')(vs:Array Value)(t:TypeId)(l:List Value)(b E sz:Nat)
  (hv:vs.toList.take l.length=l) (hb:S'.rows[b]? = some E) :
  ∃ K',K'.g w.heap.size=some l/\K'.a w.heap.size=some (b,E,sz,vs.size)/\K'.m=K.m/\Rel K' S' {w with heap:=w.heap.push (.cells vs t)}/\∀ X,Step K X w K' {w with heap:=w.heap.push (.cells vs t)}:=by
 have hg0:K.g w.heap.size=none:=by
  cases hg:K.g w.heap.size with
  | none=>rfl
  | some l=>have:=R.lt_g hg;omega
 have hlt:∀ B b E sz size,K.a B=some (b,E,sz,size)->B<w.heap.size:=λB b E sz size ha=>by obtain⟨l,hg,_⟩:=R.grow _ _ _ _ _ ha;exact R.lt_g hg
 have hx:Ext K {K with g:=λB=>if B=w.heap.size then some l else K.g B,a:=λB=>if B=w.heap.size then some (b,E,sz,vs.size)else K.a B}:=by
  refine⟨λk B hk=>hk,λB l hg=>⟨[],?_⟩,λB b E sz size ha=>⟨E,?_,Ao _,λl l' h1 h2=>?_⟩,λB l hg h=>?_⟩
  ·have:=R.lt_g hg;simp only[Ar];rw[if_neg O];exact hg
  ·have:=hlt _ _ _ _ _ ha;simp only;rw[if_neg O];exact ha
  ·have:=R.lt_g h1;simp only at h2;rw[if_neg O,h1]at h2;cases h2;simp
  ·have:=R.lt_g hg;simp only;rw[if_neg O];exact h
 refine⟨{K with g:=λB=>if B=w.heap.size then some l else K.g B,a:=λB=>if B=w.heap.size then some (b,E,sz,vs.size)else K.a B},Ag,Ag,rfl,?_,λX=>⟨hx,rfl,rfl,rfl,Ag,?_,?_,λ_ _ h=>h,λB' x hx'=>?_⟩⟩
 ·refine⟨?_,R.inj,?_,?_,?_,?_,?_⟩
  ·intro n B hk;rw[hS];exact R.dom n B hk
  ·intro k B hk;have:=R.lt_m hk;simp only;rw[if_neg O];exact R.sep k B hk
  ·intro k B cs hk hb;have hlt:=R.lt_m hk;rw[hS]at hb;obtain⟨vs',t',hw,hr'⟩:=R.cells k B cs hk hb;exact⟨vs',t',by rw[Qt,if_neg O];exact hw,RepL.ext hx _ _ hr'⟩
  ·intro k B es hk hb;have hlt:=R.lt_m hk;rw[hS]at hb;obtain⟨ms,ck,hw,hr'⟩:=R.maps k B es hk hb;exact⟨ms,ck,by rw[Qt,if_neg O];exact hw,hr'.ext hx⟩
  ·intro B l' hg;simp only at hg;rw[Qt];split at hg
   ·rename_i h;simp only[V]at hg;subst hg;exact⟨vs,t,by simp[h],hv⟩
   ·have hlt:=R.lt_g hg;obtain⟨vs',t',hw,ht⟩:=R.rows B l' hg;exact⟨vs',t',by rw[if_neg O];exact hw,ht⟩
  ·intro B b' E' sz' size' ha;simp only at ha;split at ha
   ·rename_i h;subst h;simp only[V,AP]at ha;obtain⟨rfl,rfl,rfl,rfl⟩:=ha;exact⟨l,Ag,⟨vs,t,by rw[Qt,if_pos rfl],rfl⟩,E,hb,Ao _⟩
   ·rename_i h;obtain⟨l',hg,⟨vs',t',hw,hs⟩,r,hr,hle⟩:=R.grow B b' E' sz' size' ha;have hlt:=R.lt_g hg;obtain⟨r',hr',hle'⟩:=hrows b' r hr;exact⟨l',by simp only;rw[if_neg h];exact hg,⟨vs',t',by rw[Qt,if_neg h];exact hw,hs⟩,r',hr',O⟩
 ·intro B hB _ _;rw[Qt,if_neg O]
 ·intro B hB h1 h2;refine⟨h1,?_⟩;simp only;rw[if_neg O];exact h2
 ·simp only at hx';split at hx'
  ·rename_i h;exact .inr (De h.symm)
  ·exact .inl ⟨_,hx'⟩
theorem JoR{tx e':TypeId}{size sz:Nat}{tag:Tag}{rows:List (List AV)}{x:Value}(R:Rel K S w)(hk:P.underlying tx=some (.slice e'))(hx:Rep K (.list sz tag rows) x)(hs:rows=[]\/sz=size) :
  ∃ news,Src P size tx x rows.length news w/\RepLL K rows news:=by
 simp only[Rep]at hx;obtain⟨base,cap,rfl,hc,hall,h⟩:=hx;rcases h with⟨rfl,rfl,rfl⟩ |⟨B,o,vs,rfl,hf,hr,_⟩
 ·exact⟨[],Src.ofNil w hk 0,Da⟩
 ·refine⟨vs,?_,hr⟩;have hl:=(RepLL.flat.1 hr).length;have hfl:=VH rows (λr hr'=>(hall r hr').1);refine Src.ofSlice w hk ⟨B,o,none⟩ rows.length cap vs ?_ (λj u hj=>by rw[Ya];exact R.fix_cell hf j u hj) (λu hu=>(RepLL.flat.1 hr).oneCell u hu);rcases hs with rfl |rfl
  ·simp at hl |-;exact hl
  ·omega
theorem Jgp(need cap:Nat)(h:cap<need):Builtin.nextslicecap need cap<=4*need+4096:=by
 have grow:∀(n c:Nat),c<need->Builtin.growBy need n c<=4*need+4096\/True:=λ_ _ _=>.inr trivial;have YR:∀(c:Nat),(if c ≥ need then c else c+(c+768) / 4)<=c+(c+768) / 4:=λc=>Bv;unfold Builtin.nextslicecap;split
 ·omega
 ·split
  ·omega
  ·have key:∀(n c:Nat),c<=2*need+1024->Builtin.growBy need n c<=2*need+1024:=by
    intro n;induction n with
    | zero=>intro c hc;simpa [Builtin.growBy] using hc
    | succ n ih=>
     intro c hc;simp only[Builtin.growBy];split
     ·exact hc
     ·exact ih _ O
   have:=key 4 cap O;omega
theorem Jtr{t tx el e' ty:TypeId}{i:TypeInfo}{z:Value}{sz by_:Nat}{x y:AV}{x' y':Value}{S':St}(R:Rel K S w)(ht:P.underlying t=some (.slice el))(hi:P.info? el=some i)(hz:i.zero=some z)
  (hsz:i.size=sz) (hzs:z.cells.size=sz) (hby:i.bytes=by_) (htx:P.underlying tx=some (.slice e')) (hx:Rep K x x') (hy:Rep K y y') (hv:QK sz by_ x y S=some (v,S')) :
  ∃ v' K' w',(Builtin.append_ #[t,tx] ty #[x',y']).run P w=.ok v' w'/\Rep K' v v'/\Rel K' S' w'/\S'.heap=S.heap/\∀ X,Step K X w K' w':=by
 unfold QK at hv;split at hv
 ·rename_i sz0 tag rows szb tagb rowsb;split at hv
  ·
   rename_i h0;subst h0;simp only[V,AP]at hv;obtain⟨rfl,rfl⟩:=hv;have hx':=hx;simp only[Rep]at hx';obtain⟨base,cap,rfl,hlc,_,_⟩:=hx';obtain⟨news,hs,hr⟩:=JoR (size:=i.size) R htx hy (.inl rfl);have hn:news=[]:=by simpa only[RepLL] using hr
   subst hn;exact⟨_,K,w,run_append_nothing w t tx ty el i ht hi base rows.length cap hlc _ hs,hx,R,rfl,λX=>Step.refl K X w⟩
  ·rename_i h0;split at hv
   ·rename_i hcond;obtain⟨hszb,hs0,hb1,hb2,hszp⟩:=hcond;unfold Ji at hb1 hb2;have hnpos:0<rowsb.length:=Cg.2 h0;obtain⟨news,hs,hrn⟩:=JoR (size:=i.size) R htx hy (.inr O);have hnl:=hs.newsLen;have hx':=hx;simp only[Rep]at hx';obtain⟨base,cap,rfl,hlc,hall,hr⟩:=hx';have hally:∀ r∈rowsb,r.length=sz/\Kl r=true:=by simp only[Rep]at hy;obtain⟨_,_,_,_,h,_⟩:=hy;rw[<- hszb];exact h
    have hall':∀ r∈rows++rowsb,r.length=sz/\Kl r=true:=by
     intro r hr';rcases AM.1 hr' with h |h
     ·rcases hs0 with h' |h'
      ·subst h';cases h
      ·rw[<- h'];exact hall r h
     ·exact hally r h
    obtain⟨olds,hold,hro,holdl⟩:∃ olds,(∀ w1:World,(∀ k,w1.heap[k]? = w.heap[k]?)->(Builtin.firstCells i.size rows.length (.slice base rows.length cap)).run P w1=.ok olds.toArray w1)/\RepLL K rows olds/\olds.length=rows.length*sz:=by
     rcases hr with⟨rfl,rfl,rfl⟩ |⟨B,o,vs,rfl,hf,hrl,_⟩
     ·exact⟨[],λw1 _=>by simpa using run_firstCells_none w1 i.size 0 0 0,Da,Ag⟩
     ·have hl:=(RepLL.flat.1 hrl).length;have hfl:rows.flatten.length=rows.length*sz:=by
       rcases hs0 with h' |h'
       ·subst h';simp
       ·rw[VH rows (λr hr'=>(hall r hr').1),h']
      refine⟨vs,λw1 hw1=>?_,hrl,O⟩;refine run_firstCells_some w1 i.size rows.length ⟨B,o,none⟩ rows.length cap vs (by rw[hsz];omega) (λj u hj=>?_);rw[Ya];have:=R.fix_cell hf j u hj;rw[World.cell?_of_block (w:=w) (hw1 B)];exact this
    have hcat:RepL K (rows++rowsb).flatten (olds++news):=by rw[Ds];exact(RepLL.flat.1 hro).append (RepLL.flat.1 hrn)
    have newrow:∀(b E:Nat) (S1:St),S1.heap=S.heap->(∀(b r:Nat),S.rows[b]? = some r->∃ r':Nat,S1.rows[b]? = some r'/\r<=r')->S1.rows[b]? = some E->cap<rows.length+rowsb.length ->
      ∃ v' K' w',(Builtin.append_ #[t,tx] ty #[.slice base rows.length cap,y']).run P w=.ok v' w'/\Rep K' (.list sz (.row b E) (rows++rowsb)) v'/\Rel K' S1 w'/\S1.heap=S.heap/\∀ X,Step K X w K' w':=by
     intro b E S1 h1 h2 h3 hcap;have hrun:=run_append_grow_src w t tx ty el i z ht hi hz base rows.length cap olds (hold w.drew (λ_=>rfl)) y' rowsb.length news hs hcap O (by
      have h4:=Jgp (rows.length+rowsb.length) cap hcap;have h5:Builtin.nextslicecap (rows.length+rowsb.length) cap*i.bytes<=(4*(rows.length+rowsb.length)+4096)*i.bytes:=BV _ h4;have h6:(4*(rows.length+rowsb.length)+4096)*i.bytes<=(4100*(rows.length+rowsb.length))*i.bytes:=BV _ O;have h7:(4100*(rows.length+rowsb.length))*i.bytes=4100*((rows.length+rowsb.length)*i.bytes):=by rw[Nat.mul_assoc]
      have h8:(rows.length+rowsb.length)*i.bytes<=17179869184:=by rw[hby];exact hb1
      omega)
     have hR:Rel K S w.drew:=⟨R.dom,R.inj,R.sep,R.cells,R.maps,R.rows,R.grow⟩
     obtain⟨K',hg,ha,hm,R',hst⟩:=Rel.more_new hR h1 h2 ((olds++news).toArray++Builtin.zeroCells z.cells (grownCap w (rows.length+rowsb.length) cap el-(rows.length+rowsb.length))) el (olds++news) b E sz (by rw[Array.toList_append,BM (Ao _),AB (Ao _)]) h3;have hst0:∀ X,Step K X w K w.drew:=λX=>⟨Ext.refl K,rfl,rfl,rfl,Ao _,λ_ _ _ _=>rfl,λ_ _ h1 h2=>⟨h1,h2⟩,λ_ _ h=>h,λ_ x h=>.inl ⟨x,h⟩⟩
     have hstx:∀ X,Step K X w K' _:=λX=>(hst0 X).trans (hst X) (λ_ h=>h);refine⟨_,K',_,hrun,?_,R',h1,hstx⟩;have hge:=grownCap_ge w (rows.length+rowsb.length) cap el;simp only[Rep];refine⟨_,grownCap w (rows.length+rowsb.length) cap el,by rw[AG],by rw[AG];exact hge,hall',.inr ⟨w.heap.size,0,olds++news,rfl,⟨olds++news,hg,by rw[AA,AB (Ao _)]⟩,?_,?_⟩⟩
     ·rw[RepLL.flat];exact RepL.ext (hstx (λ_=>False)).ext _ _ hcat
     ·refine⟨λx hx=>(by cases(show K'.a w.heap.size=_ from ha).symm.trans hx;rfl),⟨_,ha,rfl⟩,λ_=>?_⟩;refine⟨E,_,olds++news,ha,hg,Ao _,?_,?_⟩
      ·have hm:(rows.length+rowsb.length)*sz=rows.length*sz+rowsb.length*sz:=Bs _ _ _;rw[AG,AG,holdl,hnl,hsz,Cv,hm];omega
      ·rw[Array.size_append,size_zeroCells,hzs];have hm:(rows.length+rowsb.length)*sz=rows.length*sz+rowsb.length*sz:=Bs _ _ _;have hm2:grownCap w (rows.length+rowsb.length) cap el*sz=(rows.length+rowsb.length)*sz+(grownCap w (rows.length+rowsb.length) cap el-(rows.length+rowsb.length))*sz:=by rw[<- Bs];congr 1;omega
       have hl2:(olds++news).toArray.size=rows.length*sz+rowsb.length*sz:=by simp[holdl,hnl,hsz]
       rw[hl2];omega
    split at hv
    ·
     simp only[V,AP]at hv;obtain⟨rfl,rfl⟩:=hv;refine newrow _ _ _ rfl (λb r hbr=>?_) Ag ?_
     ·have:=(Ac.1 hbr).1;exact⟨r,by simp only;rw[AZ this];exact hbr,Ao _⟩
     ·rcases hr with⟨rfl,rfl,rfl⟩ |⟨B,o,vs,rfl,hf,hrl,ht'⟩
      ·simpa using hnpos
      ·have:=ht'.2;simp only[Ghost.tagIn]at this;omega
    ·
     rename_i b en;split at hv
     ·rename_i hc2;obtain⟨hs0',hSr⟩:=hc2;simp only[V,AP]at hv;obtain⟨rfl,rfl⟩:=hv;have hb:=(Ac.1 hSr).1;by_cases hroom:rows.length+rowsb.length<=cap
      ·rcases hr with⟨rfl,rfl,rfl⟩ |⟨B,o,vs,rfl,hf,hrl,ht'⟩
       ·simp at hroom;exact absurd hroom h0
       ·subst hs0';have hlt:rows.length<cap:=O;obtain⟨E,size,l,ha,hg,hle,hll,hsize⟩:=ht'.2.2 hlt;obtain⟨l1,hg1,⟨us,t',hw,hus⟩,r,hr',hEr⟩:=R.grow B b E sz0 size ha;rw[hSr]at hr';cases hr';have hEe:E=en:=O;subst hEe;rw[Cv,Nat.zero_mul,AE]at hll;have hmul:(rows.length+rowsb.length)*sz0=rows.length*sz0+rowsb.length*sz0:=Bs _ _ _;have hcapm:(rows.length+rowsb.length)*sz0<=cap*sz0:=BV _ hroom;have hnl':news.length=rowsb.length*sz0:=by rw[hnl,hsz]
        obtain⟨cur',hW,hl,hsz'⟩:=Wr.setCells (B:=B) (t:=t') news (o+rows.length*sz0) w us hw O;have hrun:=run_append_room_src w t tx ty el i ht hi B o rows.length cap y' rowsb.length news hs hroom (λj hj=>by rw[Y5 hw];simp;rw[hsz];omega) (λj hj=>Jda hw _);rw[hsz]at hrun;obtain⟨us2,t2,hw2,ht2⟩:=R.rows B l hg;rw[hw]at hw2;simp only[V,Obj.cells.injEq]at hw2;obtain⟨rfl,rfl,_⟩:=hw2;obtain⟨K',hg',ha',R',hst⟩:=R.more (n:=rowsb.length) hg ha hSr hnl' hW (by
         rw[hl,<- hll];have hlen:(us.toList.take l.length).length=l.length:=by rw[ht2]
         rw[BM (by rw[AG,hlen];omega),AB (by rw[AG,hlen];omega),ht2]) O
        refine⟨_,K',_,hrun,?_,R',rfl,hst⟩;have hext:=(hst (λ_=>False)).ext;simp only[Rep];refine⟨_,cap,by rw[AG],by rw[AG];exact hroom,hall',.inr ⟨B,o,olds++news,rfl,?_,?_,?_⟩⟩
        ·obtain⟨l0,hg0,hl0⟩:=hf;rw[hg]at hg0;cases hg0;refine⟨l++news,hg',?_⟩;have hvl:vs.length=rows.length*sz0:=by rw[(RepLL.flat.1 hrl).length,VH rows (λr hr'=>(hall r hr').1)]
         have hvo:vs=olds:=by have h1:=hold w (λ_=>rfl);have h2:=run_firstCells_some (P:=P) w i.size rows.length ⟨B,o,none⟩ rows.length cap vs (by rw[hsz];exact hvl) (λj u hj=>by rw[Ya];exact R.fix_cell ⟨l,hg,hl0⟩ j u hj);rw[h1]at h2;simp only[CS,and_true]at h2;have:=congrArg Array.toList h2;simpa using this.symm
         rw[<- hvo,CN O,AG];have hdl:(l.drop o).length=vs.length:=AR;rw[CG,<- hdl,AB O];have:l.drop o=vs:=by rw[<- hl0,AB O]
         rw[this]
         congr 1
         rw[AB O]
        ·rw[RepLL.flat];exact RepL.ext hext _ _ hcat
        ·refine⟨λx hx=>by rw[ha']at hx;cases hx;rfl,⟨_,ha',rfl⟩,λhlt2=>?_⟩;refine⟨E+rowsb.length,size,l++news,ha',hg',O,?_,hsize⟩;rw[AG,AG,hll,hnl',hmul,Cv];omega
      ·refine newrow _ _ _ rfl (λb' r hbr=>?_) (by simp only;rw[A3 hb]) O;by_cases hbb:b'=b
       ·subst hbb;rw[hSr]at hbr;cases hbr;exact⟨_,by simp only;rw[A3 hb],O⟩
       ·exact⟨r,by simp only;rw[Bf (λh=>hbb h.symm)];exact hbr,Ao _⟩
     ·simp at hv
    ·simp at hv
    ·simp at hv
   ·simp at hv
 ·simp at hv
variable {P:Program} {K:Ghost} {S:St} {w:World} {e:V8} {a:Act} {v:AV}
theorem Jj9{s:Jk}{x:AV}{u:Value}(hx:Rep K x u):∀{es:List (Jk×AV)} {ms:List MapEntry} {v:AV} (i:Nat),RepM K es ms->Vn es s=some v ->
  ∃ j u0,Instr.findNow .string (.string ⟨s.toArray⟩) ms i=some (some (i+j,u0))/\(∃ m,ms[j]? = some m/\m.key=.string ⟨s.toArray⟩) /\
   RepM K (ZM es s x) (ms.modify j λe=>{e with key:=.string ⟨s.toArray⟩,val:=u})
 | [],_,_,_,_,h=>by simp[Vn]at h
 |(k,a)::es,ms,v,i,hr,h=>by
  simp only[RepM]at hr;obtain⟨m,ms',rfl,hk,hv,hr'⟩:=hr;simp only[Vn]at h;by_cases hks:k=s
  ·subst hks;refine⟨0,m.val,by simp[Instr.findNow,Instr.sameNow,hk,Jfy],⟨m,rfl,hk⟩,?_⟩;simp only[ZM,if_true,RepM,List.modify_zero_cons];exact⟨_,_,rfl,rfl,hx,hr'⟩
  ·rw[if_neg hks]at h;obtain⟨j,u0,h1,⟨m',h3,h4⟩,h5⟩:=Jj9 hx (i+1) hr' h;refine⟨j+1,u0,?_,⟨m',by simpa using h3,h4⟩,?_⟩
   ·have hne:((⟨s.toArray⟩:ByteArray) ==⟨k.toArray⟩)=false:=by rw[Jfy,beq_eq_false_iff_ne];exact λheq=>hks heq.symm
    simp only[Instr.findNow,Instr.sameNow,hk,hne];rw[h1]
    congr 3
    omega
   ·simp only[ZM,if_neg hks,RepM,List.modify_succ_cons];exact⟨_,_,rfl,hk,hv,h5⟩
theorem Jka{s:Jk}{x:AV}{u:Value}{born:Nat}(hx:Rep K x u):∀{es:List (Jk×AV)} {ms:List MapEntry},RepM K es ms->Vn es s=none ->
   RepM K (ZM es s x) (ms++[{key:=.string ⟨s.toArray⟩,val:=u,born:=born}])
 | [],ms,hr,_=>by simp only[RepM]at hr;subst hr;simp only[ZM,RepM,Au];exact⟨_,_,rfl,rfl,hx,rfl⟩
 |(k,a)::es,ms,hr,h=>by
  simp only[RepM]at hr;obtain⟨m,ms',rfl,hk,hv,hr'⟩:=hr;simp only[Vn]at h;by_cases hks:k=s
  ·rw[if_pos hks]at h;cases h
  ·rw[if_neg hks]at h;simp only[ZM,if_neg hks,RepM,Aw];exact⟨_,_,rfl,hk,hv,Jka hx hr' h⟩
theorem Rel.writeM{n B:Nat}{blk:Blk}{ms':Array MapEntry}{ck:Nat}{es':List (Jk×AV)}(R:Rel K S w)(hm:K.m n=some B)(hb:S.heap[n]? = some blk)(hr:RepM K es' ms'.toList) :
  Rel K {S with heap:=S.heap.set n (.map es')} {w with heap:=w.heap.setIfInBounds B (.map ms' ck)}/\∀ X,Step K X w K {w with heap:=w.heap.setIfInBounds B (.map ms' ck)}:=by
 have hn:=(Ac.1 hb).1;have hB:=R.lt_m hm;have hblock:({w with heap:=w.heap.setIfInBounds B (.map ms' ck)}:World).heap[B]? = some (.map ms' ck):=by simp[hB]
 have hother:∀ k,k≠B->({w with heap:=w.heap.setIfInBounds B (.map ms' ck)}:World).heap[k]? = w.heap[k]?:=λk hk=>by simp only;rw[BS (λh=>hk h.symm)]
 refine⟨⟨?_,R.inj,R.sep,?_,?_,?_,?_⟩,λX=>⟨Ext.refl K,rfl,rfl,rfl,Ag,λB' _ h1 _=>hother B' (λh=>h1 n (h ▸ hm)),λ_ _ h1 h2=>⟨h1,h2⟩,λ_ _ h=>h,λ_ x h=>.inl ⟨x,h⟩⟩⟩
 ·intro k B' hk;simpa using R.dom k B' hk
 ·intro k B' cs hk hc;by_cases hkn:k=n
  ·subst hkn;simp only[A3 hn,V,reduceCtorEq]at hc
  ·rw[Bf (λh=>hkn h.symm)]at hc;obtain⟨us,t',h1,h2⟩:=R.cells k B' cs hk hc;exact⟨us,t',by rw[hother B' (λh=>hkn (R.inj k n B (h ▸ hk) hm))];exact h1,h2⟩
 ·intro k B' es hk hc;by_cases hkn:k=n
  ·subst hkn;rw[hm]at hk;cases hk;simp only[A3 hn,V,Blk.map.injEq]at hc;subst hc;exact⟨ms',ck,hblock,hr⟩
  ·rw[Bf (λh=>hkn h.symm)]at hc;obtain⟨us,t',h1,h2⟩:=R.maps k B' es hk hc;exact⟨us,t',by rw[hother B' (λh=>hkn (R.inj k n B (h ▸ hk) hm))];exact h1,h2⟩
 ·intro B' l hg;obtain⟨us,t',h1,h2⟩:=R.rows B' l hg;exact⟨us,t',by rw[hother B' (λh=>by rw[h,R.sep n B hm]at hg;cases hg)];exact h1,h2⟩
 ·intro B' b E sz size ha;obtain⟨l,hg,⟨us,t',h1,h2⟩,hrow⟩:=R.grow B' b E sz size ha;exact⟨l,hg,⟨us,t',by rw[hother B' (λh=>by rw[h,R.sep n B hm]at hg;cases hg)];exact h1,h2⟩,hrow⟩
theorem Jif{B ck ck':Nat}{ms ms':Array MapEntry}(h:w.heap[B]? = some (.map ms ck)) :
  (setObj B (.map ms' ck')).run P w=.ok () {w with heap:=w.heap.setIfInBounds B (.map ms' ck')}:=by
 simp[setObj,Sem.run,h]
theorem Jts{T et:TypeId}{n:Nat}{s:Jk}{x:AV}{m' u:Value}{es:List (Jk×AV)}(R:Rel K S w)(hT:JoP P T=some et)(hm:Rep K (.map n) m')(hx:Rep K x u)(hb:S.heap[n]? = some (.map es)) :
  ∃ w',(Instr.mapUpdate T m' (.string ⟨s.toArray⟩) u).run P w=.ok () w'/\Rel K {S with heap:=S.heap.set n (.map (ZM es s x))} w'/\∀ X,Step K X w K w':=by
 obtain⟨kt,hu,hk⟩:=Jfx hT;simp only[Rep]at hm;obtain⟨B,hmB,rfl⟩:=hm;obtain⟨ms,ck,hw,hr⟩:=R.maps n B es hmB hb;cases hl:Vn es s with
 | some v0=>
  obtain⟨j,u0,h1,⟨m,h3,h4⟩,h5⟩:=Jj9 hx 0 hr hl;have hf:(Instr.findKey kt (.string ⟨s.toArray⟩) ms.toList).run P w=.ok (some (j,u0)) w:=by simp[Instr.findKey,run_underlying hk,h1]
  have hr':RepM K (ZM es s x) (ms.modify j λe=>{e with key:=.string ⟨s.toArray⟩,val:=u}).toList:=by rw[Array.toList_modify];exact h5
  obtain⟨R',hst⟩:=R.writeM (ck:=ck) hmB hb hr';refine⟨_,?_,R',hst⟩;have h3':ms[j]? = some m:=by simpa using h3
  have hkt:(Instr.keyThatStays (((ms[j]?).map (·.key)).getD (.string ⟨s.toArray⟩)) (.string ⟨s.toArray⟩)).run P w=.ok (.string ⟨s.toArray⟩) w:=by simp[Instr.keyThatStays,h3',h4,Instr.sameBits,Jfy]
  simp only[Instr.mapUpdate,A6,run_underlying hu,AW,Jaq hw,YD _ hk,hf,hkt,Jif hw]
 | none=>
  have hf:=Ja9 (P:=P) (w:=w) hk hr hl;have hr':RepM K (ZM es s x) (ms.push {key:=.string ⟨s.toArray⟩,val:=u,born:=ck}).toList:=by rw[Array.toList_push];exact Jka hx hr hl
  obtain⟨R',hst⟩:=R.writeM (ck:=ck+1) hmB hb hr';refine⟨_,?_,R',hst⟩;simp only[Instr.mapUpdate,A6,run_underlying hu,AW,Jaq hw,YD _ hk,hf,Jif hw]
theorem JwN(R:Rel K S w) :
  ∃ K',K'.m S.heap.length=some w.heap.size/\Rel K' {S with heap:=S.heap++[.map []]} {w with heap:=w.heap.push (.map #[] 0)}/\Step K (λn=>n<S.heap.length) w K' {w with heap:=w.heap.push (.map #[] 0)}:=by
 have hx:Ext K {K with m:=λk=>if k=S.heap.length then some w.heap.size else K.m k}:=by
  refine⟨λk B hk=>?_,λB l hg=>⟨[],by simpa using hg⟩,λB b E sz size ha=>⟨E,ha,Ao _,λl l' h1 h2=>?_⟩,λ_ _ _ h=>h⟩
  ·have:=R.dom k B hk;simp only;rw[if_neg O];exact hk
  ·simp only at h2;rw[h1]at h2;cases h2;simp
 refine⟨{K with m:=λk=>if k=S.heap.length then some w.heap.size else K.m k},Ag,?_,hx,rfl,rfl,rfl,Ag,?_,?_,?_,λ_ x h=>.inl ⟨x,h⟩⟩
 ·refine⟨?_,?_,?_,?_,?_,?_,?_⟩
  ·intro k B hk;simp only at hk;split at hk
   ·simp;omega
   ·have:=R.dom k B hk;simp;omega
  ·intro k k' B hk hk';simp only at hk hk';split at hk <;> split at hk'
   ·omega
   ·simp only[V]at hk;have:=R.lt_m hk';omega
   ·simp only[V]at hk';have:=R.lt_m hk;omega
   ·exact R.inj k k' B hk hk'
  ·intro k B hk;simp only at hk |-;split at hk
   ·simp only[V]at hk;cases hg:K.g B with
    | none=>rfl
    | some l=>have:=R.lt_g hg;omega
   ·exact R.sep k B hk
  ·intro k B cs hk hb;simp only at hk;split at hk
   ·rename_i h;subst h;simp at hb
   ·have hlt:=R.lt_m hk;rw[AZ (R.dom k B hk)]at hb;obtain⟨vs',t',hw,hr'⟩:=R.cells k B cs hk hb;exact⟨vs',t',by rw[Qt,if_neg O];exact hw,RepL.ext hx _ _ hr'⟩
  ·intro k B es hk hb;simp only at hk;split at hk
   ·rename_i h;subst h;simp only[V]at hk;subst hk;simp at hb;subst hb;exact⟨#[],0,Ag,by simp[RepM]⟩
   ·have hlt:=R.lt_m hk;rw[AZ (R.dom k B hk)]at hb;obtain⟨ms,ck,hw,hr'⟩:=R.maps k B es hk hb;exact⟨ms,ck,by rw[Qt,if_neg O];exact hw,hr'.ext hx⟩
  ·intro B l hg;have hlt:=R.lt_g hg;obtain⟨vs',t',hw,ht⟩:=R.rows B l hg;exact⟨vs',t',by rw[Qt,if_neg O];exact hw,ht⟩
  ·intro B b E sz size ha;obtain⟨l,hg,⟨vs',t',hw,hs⟩,hrow⟩:=R.grow B b E sz size ha;have hlt:=R.lt_g hg;exact⟨l,hg,⟨vs',t',by rw[Qt,if_neg O];exact hw,hs⟩,hrow⟩
 ·intro B hB _ _;rw[Qt,if_neg O]
 ·intro B hB h1 h2;refine⟨λk hk=>?_,h2⟩;simp only at hk;split at hk
  ·simp only[V]at hk;omega
  ·exact h1 k hk
 ·intro k hk h;simp only;rw[if_neg O];exact h
theorem X3{zs:List AV}{us:List Value}(h:RepL K zs us):∀ n,RepL K (List.replicate n zs).flatten (List.replicate n us).flatten
 | 0=>by simp[RepL]
 | n+1=>by simp only[Dn,BF];exact h.append (X3 h n)
theorem JmR(z:Array Value)(h0:0<z.size):∀ n,((Array.range (n*z.size)).map (z[· % z.size]!)).toList=(List.replicate n z.toList).flatten
 | 0=>by simp[show Array.range 0=#[] from rfl]
 | n+1=>by
  have ih:=JmR z h0 n;rw[List.replicate_succ',Ds,<- ih];simp only[Dd,Array.toList_range,BF,List.flatten_nil,Ar];rw[Bs,CK,List.range_add,An,DA]
  congr 1
  apply List.ext_getElem
  ·simp
  ·intro i h1 h2;simp at h1 h2 |-;rw[Nat.mod_eq_of_lt h1];simp[h1]
theorem JwO{n:Int}(h0:0<=n)(h1:n<=17179869184):IntKind.i64.wrap n=n:=IntWalk.i64_in n O
theorem Jr7{T el:TypeId}{i:TypeInfo}{z:Value}{sz by_:Nat}{zs:List AV}{n:Int}(R:Rel K S w)(hu:P.underlying T=some (.slice el))(hi:P.info? el=some i)(hz:i.zero=some z)
  (hsz:i.size=sz) (hby:i.bytes=by_) (hzs:z.cells.size=sz) (hr:RepL K zs z.cells.toList) (h0:0<sz) (hn:0<=n) (hb:n.toNat*by_<=Ji) (hm:n.toNat<=Ji) :
  ∃ v' K' w',(Instr.makeSlice T (.int .i64 n) (.int .i64 n)).run P w=.ok v' w'/\Rep K' (.arr S.heap.length 0 sz n.toNat) v'/\Rel K' {S with heap:=S.heap++[.cells (List.replicate n.toNat zs).flatten]} w' /\
   Step K (λn=>n<S.heap.length) w K' w':=by
 unfold Ji at hb hm;have hrep:RepL K (List.replicate n.toNat zs).flatten ((Array.range (n.toNat*z.cells.size)).map (z.cells[· % z.cells.size]!)).toList:=by rw[JmR _ O];exact X3 hr _
 obtain⟨K',hm',R',hst⟩:=JfA (t:=el) R hrep;refine⟨.slice (some ⟨w.heap.size,0,none⟩) n.toNat n.toNat,K',_,?_,by simp only[Rep];exact⟨_,_,hm',Ao _,rfl⟩,R',hst⟩;have hw:=JwO hn O;have hbn:(i.bytes:Int)*n<=17179869184:=by have h1:((n.toNat*by_:Nat):Int)<=17179869184:=O;rw[hby,Int.mul_comm];rw[Int.natCast_mul,Int.toNat_of_nonneg hn]at h1;exact h1
 have hz':∀ w1:World,(zeroValue el).run P w1=.ok z w1:=λw1=>by simp[zeroValue,typeInfo,hi,hz]
 have hs':∀ w1:World,(sizeOf el).run P w1=.ok sz w1:=λw1=>by simp[sizeOf,typeInfo,hi,hsz]
 simp only[Instr.makeSlice,A6,run_underlying hu,AW,asInt,asIntOf,Bg,typeInfo,run_program,hi,hw];simp only[Bp,decide_eq_true_eq,CJ,A6,run_askRoom,AW,hs'];rw[if_neg O];simp only[Bg,AW];by_cases hn0:n.toNat=0
 ·rw[if_pos (by rw[hn0];simp)];simp[newRow,hn0,show Array.range 0=#[] from rfl]
 ·have hne:¬ (n.toNat*sz=0):=by intro h;rcases DL.1 h with h |h <;> omega
  rw[if_neg hne];simp[newRow,hz',hzs]
variable {P:Program} {K:Ghost} {S S':St} {w:World} {e:V8} {a:Act} {v:AV}
def Keeps(b0:Nat)(S S':St):Prop:=S.heap.length<=S'.heap.length/\(∀ k,k<=b0->VL k S->VL k S')/\(VL S.heap.length S->VL S'.heap.length S')
def Xw(K:Ghost)(S:St)(w:World)(r:Res)(S':St)(e:Ending)(w':World):Prop:=
 ∃ K',Rel K' S' w'/\Step K (λn=>n<S.heap.length) w K' w'/\Keeps S.heap.length S S' /\
  match r with
  | .ret v=>∃ u,e=.returned u/\Rep K' v u
  | .panic v=>∃ u,e=.panicked [{v:=u,recovered:=false}]/\Rep K' v u
def VF(P:Program)(cl:Ky):Prop:=
 ∀ f vs S r S',cl f vs S=some (r,S')->∀ K w us,Rel K S w->VL S.heap.length S->RepT K vs us ->
  ((callFunc f us.toArray).run P w=.ok (.enter f us.toArray) w/\Calls P f us.toArray w (Xw K S w r S')) \/
  ∃ u w',(callFunc f us.toArray).run P w=.ok (.value u) w'/\Xw K S w r S' (.returned u) w'
def JwP(P:Program)(t tx:TypeId)(sz by_:Nat):Bool:=
 match P.underlying t,P.underlying tx with
 | some (.slice e),some (.slice _)=>match P.info? e with
  | some i=>i.size == sz && i.bytes == by_ && match i.zero with
   | some z=>z.cells.size == sz
   | none=>false
  | none=>false
 | _,_=>false
def JmS(P:Program)(t:TypeId)(sz by_:Nat)(zs:List AV):Bool:=
 match P.underlying t with
 | some (.slice e)=>match P.info? e with
  | some i=>i.size == sz && i.bytes == by_ && match i.zero with
   | some z=>z.cells.size == sz && Jgj zs z.cells.toList
   | none=>false
  | none=>false
 | _=>false
def JwQ(P:Program)(op:Op)(l:LOp):Bool:=
 match op,l with
 | .store T x y,.store k x' y'=>(match P.info? T with |some i=>i.size == k |none=>false) && Vp x' x && Vp y' y
 | .box _ x,.box x'=>Vp x' x
 | .makeMap _ none,.mkMap=>true
 | .makeSlice T l c,.mkSlice sz by_ zs l' c'=>JmS P T sz by_ zs && decide (0<sz) && Vp l' l && Vp c' c
 | .buildSlice T n ps,.mkArr sz xs=>Jeu P T sz && Jlh 0 ps.toList xs && xs.length == n && decide (n*sz<=16777216) && decide (0<sz) && decide (0<n)
 | .mapUpdate T m k x,.mapUpd m' k' x'=>(JoP P T).isSome && Vp m' m && Vp k' k && Vp x' x
 | .call c,.append sz by_ x' y'=>match c.callee with
  | .builtin .append=>(match c.args.toList,c.argTypes.toList with
   | [x,y],[t,tx]=>JwP P t tx sz by_ && Vp x' x && Vp y' y
   | _,_=>false)
  | _=>false
 | .call c,.call f args=>match c.callee with
  | .value g=>Vp f g && Jgk args c.args.toList
  | _=>false
 | .panic x,.panic x'=>Vp x' x
 | _,_=>false
mutual
theorem Jar{m n:Nat}(h:m<=n):∀(a:AV),below m a=true->below n a=true
 | .ptr _ _,hb=>by simp only[below,decide_eq_true_eq]at hb |-;omega
 | .arr _ _ _ _,hb=>by simp only[below,decide_eq_true_eq]at hb |-;omega
 | .map _,hb=>by simp only[below,decide_eq_true_eq]at hb |-;omega
 | .func _ a b,hb=>by simp only[below,Ah]at hb |-;exact⟨V2 h a hb.1,V2 h b hb.2⟩
 | .iface _ v,hb=>by simp only[below]at hb |-;exact Jar h v hb
 | .agg cs,hb=>by simp only[below]at hb |-;exact V2 h cs hb
 | .tup cs,hb=>by simp only[below]at hb |-;exact V2 h cs hb
 | .bool _,_=>rfl
 | .int _ _,_=>rfl
 | .str _,_=>rfl
 | .nilp,_=>rfl
 | .ref cs,hb=>by simp only[below]at hb |-;exact V2 h cs hb
 | .list _ _ _,_=>rfl
 | .nilm,_=>rfl
 | .nilf,_=>rfl
 | .nili,_=>rfl
 | .undef,_=>rfl
theorem V2{m n:Nat}(h:m<=n):∀(a:List AV),belowL m a=true->belowL n a=true
 | [],_=>rfl
 | a::as,hb=>by simp only[belowL,Ah]at hb |-;exact⟨Jar h a hb.1,V2 h as hb.2⟩
end
theorem JaX(n:Nat):∀(a b:List AV),belowL n (a++b)=(belowL n a && belowL n b)
 | [],b=>by simp[belowL]
 | a::as,b=>by simp only[Aw,belowL,JaX n as b,DV]
theorem Jgq(n:Nat):∀(k:Nat) (a:List AV),belowL n a=true->belowL n (a.take k)=true
 | 0,_,_=>by simp[belowL]
 | k+1,[],_=>by simp[belowL]
 | k+1,a::as,h=>by simp only[belowL,Ah]at h;simp only[Ay,belowL,Ah];exact⟨h.1,Jgq n k as h.2⟩
theorem Jgr(n:Nat):∀(k:Nat) (a:List AV),belowL n a=true->belowL n (a.drop k)=true
 | 0,_,h=>by simpa using h
 | k+1,[],_=>by simp[belowL]
 | k+1,a::as,h=>by simp only[belowL,Ah]at h;simpa using Jgr n k as h.2
theorem JmT(n:Nat)(a:AV)(h:below n a=true):belowL n a.cells=true:=by cases a <;> simp_all[AV.cells,below,belowL]
mutual
theorem Rep.below(R:Rel K S w):∀(a:AV) (v:Value),Rep K a v->Ai.below S.heap.length a=true
 | .ptr n _,v,r=>by simp only[Rep]at r;obtain⟨B,hm,_⟩:=r;simp only[Ai.below,decide_eq_true_eq];exact R.dom n B hm
 | .arr n _ _ _,v,r=>by simp only[Rep]at r;obtain⟨B,_,hm,_⟩:=r;simp only[Ai.below,decide_eq_true_eq];exact R.dom n B hm
 | .map n,v,r=>by simp only[Rep]at r;obtain⟨B,hm,_⟩:=r;simp only[Ai.below,decide_eq_true_eq];exact R.dom n B hm
 | .func _ a b,v,r=>by simp only[Rep]at r;obtain⟨us,vs,_,h1,h2⟩:=r;simp only[Ai.below,Ah];exact⟨RepT.below R a us h1,RepT.below R b vs h2⟩
 | .iface _ x,v,r=>by simp only[Rep]at r;obtain⟨u,_,h⟩:=r;simp only[Ai.below];exact Rep.below R x u h
 | .agg cs,v,r=>by simp only[Rep]at r;obtain⟨vs,_,h⟩:=r;simp only[Ai.below];exact RepL.below R cs vs h
 | .tup cs,v,r=>by simp only[Rep]at r;obtain⟨vs,_,h⟩:=r;simp only[Ai.below];exact RepT.below R cs vs h
 | .bool _,_,_=>rfl
 | .int _ _,_,_=>rfl
 | .str _,_,_=>rfl
 | .nilp,_,_=>rfl
 | .ref cs,v,r=>by simp only[Rep]at r;obtain⟨_,_,vs,_,_,h⟩:=r;simp only[Ai.below];exact RepL.below R cs vs h
 | .list _ _ _,_,_=>rfl
 | .nilm,_,_=>rfl
 | .nilf,_,_=>rfl
 | .nili,_,_=>rfl
 | .undef,_,_=>rfl
theorem RepL.below(R:Rel K S w):∀(a:List AV) (v:List Value),RepL K a v->belowL S.heap.length a=true
 | [],_,_=>rfl
 | a::as,v,r=>by simp only[RepL]at r;obtain⟨u,us,_,_,h1,h2⟩:=r;simp only[belowL,Ah];exact⟨Rep.below R a u h1,RepL.below R as us h2⟩
theorem RepT.below(R:Rel K S w):∀(a:List AV) (v:List Value),RepT K a v->belowL S.heap.length a=true
 | [],_,_=>rfl
 | a::as,v,r=>by simp only[RepT]at r;obtain⟨u,us,_,h1,h2⟩:=r;simp only[belowL,Ah];exact⟨Rep.below R a u h1,RepT.below R as us h2⟩
end
theorem Jcs{m n:Nat}(h:m<=n)(b:Blk)(hb:Jcn m b=true):Jcn n b=true:=by
 cases b with
 | cells cs=>exact V2 h cs hb
 | map es=>simp only[Jcn,Bo]at hb |-;exact λx hx=>Jar h _ (hb x hx)
theorem KY(b0:Nat)(S:St):Keeps b0 S S:=⟨Ao _,λ_ _ h=>h,λh=>h⟩
theorem Jby{b0:Nat}(h:b0<=S.heap.length){b:Blk}(hb:Jcn (S.heap.length+1) b=true):Keeps b0 S {S with heap:=S.heap++[b]}:=by
 refine⟨Ag,λk hk hI n blk hn hb=>hI n blk hn ?_,λhI n blk hn hbl=>?_⟩
 ·rwa [AZ O]at hb
 ·simp only[AG,Ad,Af,AF]at hn |-;by_cases hnl:n<S.heap.length
  ·simp only at hbl;rw[AZ hnl]at hbl;exact Jcs O _ (hI n blk hnl hbl)
  ·have:n=S.heap.length:=by omega
   subst this;simp at hbl;subst hbl;exact hb
theorem Jig{b0:Nat}(h:S'.heap=S.heap):Keeps b0 S S':=
 ⟨by rw[h];exact Ao _,λk _ hI n b hn hb=>hI n b hn (by rwa [h]at hb),λhI=>by rw[h];exact λn b hn hb=>hI n b hn (by rwa [h]at hb)⟩
theorem Keeps.trans{b0:Nat}{S1 S2 S3:St}(h:Keeps b0 S1 S2)(h':Keeps b0 S2 S3):Keeps b0 S1 S3:=
 ⟨BX h.1 h'.1,λk hk hI=>h'.2.1 k hk (h.2.1 k hk hI),λhI=>h'.2.2 (h.2.2 hI)⟩
theorem Keeps.mono{b0 b1:Nat}{S1 S2:St}(h:Keeps b0 S1 S2)(hb:b1<=b0):Keeps b1 S1 S2:=⟨h.1,λk hk=>h.2.1 k O,h.2.2⟩
theorem Jgs{n off k:Nat}{cs:List AV}{x:AV}(hb:S.heap[n]? = some (.cells cs))(hx:n<k->below k x=true)(hI:VL k S) :
  VL k {S with heap:=S.heap.set n (.cells (overlay cs off x.cells))}:=by
 intro m blk hm hbm;have hn:=(Ac.1 hb).1;by_cases hmn:m=n
 ·subst hmn;simp only[A3 hn,V]at hbm;subst hbm;have hc:=hI m _ hm hb;simp only[Jcn]at hc |-;unfold overlay;rw[JaX,JaX,Jgq k off cs hc,JmT k x (hx hm),Jgr k _ cs hc];rfl
 ·simp only at hbm;rw[Bf (λh=>hmn h.symm)]at hbm;exact hI m blk hm hbm
theorem Jgt{b0 n off:Nat}{cs:List AV}{x:AV}(hb:S.heap[n]? = some (.cells cs))(h:b0<=n\/below (n+1) x=true)(hl:below S.heap.length x=true) :
  Keeps b0 S {S with heap:=S.heap.set n (.cells (overlay cs off x.cells))}:=by
 refine⟨Ag,λk hk hI=>Jgs hb (λhnk=>?_) hI,λhI=>?_⟩
 ·rcases h with h |h
  ·omega
  ·exact Jar O x h
 ·have:=Jgs (off:=off) (x:=x) hb (λ_=>hl) hI;simpa using this
theorem JmU{p:AV->Bool}{s:Jk}{x:AV}(hx:p x=true):∀(es:List (Jk×AV)),es.all (λz=>p z.2)=true->(ZM es s x).all (λz=>p z.2)=true
 | [],_=>by simp[ZM,hx]
 |(k,a)::es,h=>by
  simp only[B1,Ah]at h;simp only[ZM];split
  ·simp only[B1,Ah];exact⟨hx,h.2⟩
  ·simp only[B1,Ah];exact⟨h.1,JmU hx es h.2⟩
theorem Jkb{n k:Nat}{es:List (Jk×AV)}{s:Jk}{x:AV}(hb:S.heap[n]? = some (.map es))(hx:n<k->below k x=true)(hI:VL k S) :
  VL k {S with heap:=S.heap.set n (.map (ZM es s x))}:=by
 intro m blk hm hbm;have hn:=(Ac.1 hb).1;by_cases hmn:m=n
 ·subst hmn;simp only[A3 hn,V]at hbm;subst hbm;have hc:=hI m _ hm hb;simp only[Jcn]at hc |-;exact JmU (p:=below k) (hx hm) es hc
 ·simp only at hbm;rw[Bf (λh=>hmn h.symm)]at hbm;exact hI m blk hm hbm
theorem Jr8{b0 n:Nat}{es:List (Jk×AV)}{s:Jk}{x:AV}(hb:S.heap[n]? = some (.map es))(h:b0<=n\/below (n+1) x=true)(hl:below S.heap.length x=true) :
  Keeps b0 S {S with heap:=S.heap.set n (.map (ZM es s x))}:=by
 refine⟨Ag,λk hk hI=>Jkb hb (λhnk=>?_) hI,λhI=>?_⟩
 ·rcases h with h |h
  ·omega
  ·exact Jar O x h
 ·have:=Jkb (s:=s) (x:=x) hb (λ_=>hl) hI;simpa using this
theorem Jgu:∀{xs:List Opd} {vs:List AV},X9 xs e=some vs->vs.length=xs.length
 | [],vs,h=>by simp only[X9,V]at h;subst h;rfl
 | x::xs,vs,h=>by
  simp only[X9]at h;cases hx:x.val e with
  | none=>simp[hx]at h
  | some u=>
   cases hxs:X9 xs e with
   | none=>simp[hx,hxs]at h
   | some us=>simp only[hx,hxs,V]at h;subst h;simp[Jgu hxs]
theorem lwp{b0:Nat}{cl:Ky}{o:Oper}{l:LOp}{r:Res}{next:Act->World->Prop}{Q:Exit->Act->World->Prop}(hc:JwQ P o.op l=true)(hcl:VF P cl)(R:Rel K S w)(hsc:VL S.heap.length S)(E:EnvRep K e a.tmps)(hb0:b0<=S.heap.length)
  (hv:XN b0 cl l e S=some (r,S'))
  (hnext:∀ v v' K' w',r=.ret v->Rep K' v v'->Rel K' S' w'->Step K (λn=>n<S.heap.length) w K' w'->Keeps b0 S S'->next (a.put o.dst v') w')
  (hpanic:∀ v v' K' w',r=.panic v->Rep K' v v'->Rel K' S' w'->Step K (λn=>n<S.heap.length) w K' w'->Keeps b0 S S'->Q (.panic [{v:=v',recovered:=false}]) a w') :
  o.wp P a w next Q:=by
 obtain⟨dst,op,type,pos,after,guard⟩:=o;simp only at hc hnext;unfold Oper.wp;unfold JwQ at hc;split at hc
 ·
  rename_i T x y k x' y';simp only[Ah]at hc;obtain⟨⟨h1,h2⟩,h3⟩:=hc;split at h1
  ·rename_i i hi;simp only[beq_iff_eq]at h1;simp only[XN]at hv;split at hv
   ·rename_i n off u hx hy;split at hv
    ·rename_i cs hb;split at hv
     ·rename_i hcond;obtain⟨g1,g2,g3,g4⟩:=hcond;simp only[V,AP]at hv;obtain⟨rfl,rfl⟩:=hv;obtain⟨w',hrun,R',hst⟩:=Jqm (P:=P) R hi h1 (JA E h2 hx) (JA E h3 hy) hb g1 g2 g3 (λn=>n<S.heap.length);have hrun':(execOp a.eval {dst:=dst,op:=.store T x y,type:=type,pos:=pos,after:=after,guard:=guard}).run P w=.ok .skip w':=by simp[execOp,hrun]
      rw[hrun'];exact hnext .undef Go.undef K w' rfl (by simp[Rep,Go.undef]) R' hst (Jgt hb g4 (Rep.below R _ _ (JA E h3 hy)))
     ·simp at hv
    ·simp at hv
   ·simp at hv
  ·simp at h1
 ·
  rename_i T x x';simp only[XN]at hv;split at hv
  ·rename_i u hx;split at hv
   ·rename_i hok;simp only[V,AP]at hv;obtain⟨rfl,rfl⟩:=hv;obtain⟨K',hm,R',hst⟩:=JfA (t:=T) R ((JA E hc hx).cells hok);have hrun':(execOp a.eval {dst:=dst,op:=.box T x,type:=type,pos:=pos,after:=after,guard:=guard}).run P w=.ok (.value (.pointer (some ⟨w.heap.size,0,none⟩))) {w with heap:=w.heap.push (.cells (a.eval x).cells T)}:=by simp[execOp,Instr.box,newVar,newRow]
    rw[hrun'];exact hnext _ _ K' _ rfl (by simp only[Rep];exact⟨_,hm,rfl⟩) R' hst (Jby hb0 (V2 (Nat.le_succ _) _ (RepL.below R _ _ ((JA E hc hx).cells hok))))
   ·simp at hv
  ·simp at hv
 ·
  rename_i T;simp only[XN,V,AP]at hv;obtain⟨rfl,rfl⟩:=hv;obtain⟨K',hm,R',hst⟩:=JwN R;have hrun':(execOp a.eval {dst:=dst,op:=.makeMap T none,type:=type,pos:=pos,after:=after,guard:=guard}).run P w=.ok (.value (.map (some w.heap.size))) {w with heap:=w.heap.push (.map #[] 0)}:=by simp[execOp,Instr.makeMap]
  rw[hrun'];exact hnext _ _ K' _ rfl (by simp only[Rep];exact⟨_,hm,rfl⟩) R' hst (Jby hb0 rfl)
 ·
  rename_i T lo co sz by_ zs l' c';simp only[Ah,decide_eq_true_eq]at hc;obtain⟨⟨⟨h1,h2⟩,h3⟩,h4⟩:=hc;unfold JmS at h1;split at h1
  ·rename_i el hu;split at h1
   ·rename_i i hi;simp only[Ah,beq_iff_eq]at h1;obtain⟨⟨hsz,hby⟩,h1⟩:=h1;split at h1
    ·rename_i z hz;simp only[Ah,beq_iff_eq]at h1;simp only[XN]at hv;split at hv
     ·rename_i n m hl hm;split at hv
      ·rename_i hcond;obtain⟨rfl,g1,g2,g3,g4⟩:=hcond;simp only[V,AP]at hv;obtain⟨rfl,rfl⟩:=hv;have r1:=JA E h3 hl;have r2:=JA E h4 hm;simp only[Rep]at r1 r2;obtain⟨v',K',w',hrun,hr,R',hst⟩:=Jr7 (P:=P) R hu hi hz hsz hby h1.1 (Jao K _ _ h1.2) h2 g1 g2 g3;have hrun':(execOp a.eval {dst:=dst,op:=.makeSlice T lo co,type:=type,pos:=pos,after:=after,guard:=guard}).run P w=.ok (.value v') w':=by simp[execOp,r1,r2,hrun]
       rw[hrun'];exact hnext _ _ K' w' rfl hr R' hst (Jby hb0 (V2 (Nat.le_succ _) _ (RepL.below R _ _ (X3 (Jao K _ _ h1.2) _))))
      ·simp at hv
     ·simp at hv
    ·simp at h1
   ·simp at h1
  ·simp at h1
 ·
  rename_i T n ps sz xs;simp only[Ah,beq_iff_eq,decide_eq_true_eq]at hc;obtain⟨⟨⟨⟨⟨h1,h2⟩,h3⟩,h4⟩,h5⟩,h6⟩:=hc;obtain⟨el,ti,z,hu,hi,hsz,hz,hzs⟩:=Jev h1;simp only[XN]at hv;split at hv
  ·rename_i vs hvs;split at hv
   ·rename_i cs hcs;simp only[V,AP]at hv;obtain⟨rfl,rfl⟩:=hv;have hvl:vs.length=n:=by rw[<- h3];exact Jgu hvs
    have hmul:n*sz≠0:=by intro h;rcases DL.1 h with h |h <;> omega
    obtain⟨cells,hf,new,hnew,hrep⟩:=Jib E (sz:=sz) 0 ((Array.range (n*sz)).map (z.cells[· % z.cells.size]!)) [] h2 hvs hcs Ag Ag (by simp[hvl]);have hnew':cells.toList=new:=by simpa using hnew
    obtain⟨K',hm,R',hst⟩:=JfA (t:=el) R (vs:=cells) (by rw[hnew'];exact hrep);have hrun':(execOp a.eval {dst:=dst,op:=.buildSlice T n ps,type:=type,pos:=pos,after:=after,guard:=guard}).run P w=.ok (.value (.slice (some ⟨w.heap.size,0,none⟩) n n)) {w with heap:=w.heap.push (.cells cells el)}:=by
     have hf':Instr.fill (λi=>some (i*ti.size,ti.size)) ((Array.range (n*ti.size)).map (z.cells[· % z.cells.size]!)) (ps.map λ(i,x)=>(i,a.eval x)).toList=some cells:=by rw[hsz];simpa using hf
     have hb':¬ (16777216<n*ti.size):=by rw[hsz];omega
     have hm':¬ (n*ti.size=0):=by rw[hsz];exact hmul
     have:(Instr.buildSlice T n (ps.map λ(i,x)=>(i,a.eval x))).run P w=.ok (.slice (some ⟨w.heap.size,0,none⟩) n n) {w with heap:=w.heap.push (.cells cells el)}:=by simp only[Instr.buildSlice,A6,run_underlying hu,AW,VU hi,gt_iff_lt,CJ];rw[if_neg (by simpa using hb')];simp only[Bg,AW];rw[if_neg hm'];simp only[Xl hi hz,AW];rw[hf'];simp[newRow]
     simp[execOp,this]
    rw[hrun'];refine hnext _ _ K' _ rfl ?_ R' hst (Jby hb0 (V2 (Nat.le_succ _) _ (RepL.below R _ _ hrep)));simp only[Rep];exact⟨_,_,hm,Ao _,by rw[hvl]⟩
   ·simp at hv
  ·simp at hv
 ·
  rename_i T m k x m' k' x';simp only[Ah]at hc;obtain⟨⟨⟨h1,h2⟩,h3⟩,h4⟩:=hc;obtain⟨et,hT⟩:=BQ.1 h1;simp only[XN]at hv;split at hv
  ·rename_i n s u hm hk hx;split at hv
   ·rename_i es hb;split at hv
    ·rename_i hcond;simp only[V,AP]at hv;obtain⟨rfl,rfl⟩:=hv;have hks:=JA E h3 hk;simp only[Rep]at hks;obtain⟨w',hrun,R',hst⟩:=Jts (P:=P) (s:=s) R hT (JA E h2 hm) (JA E h4 hx) hb;have hrun':(execOp a.eval {dst:=dst,op:=.mapUpdate T m k x,type:=type,pos:=pos,after:=after,guard:=guard}).run P w=.ok .skip w':=by simp[execOp,hks,hrun]
     rw[hrun'];exact hnext .undef Go.undef K w' rfl (by simp[Rep,Go.undef]) R' (hst _) (Jr8 hb hcond (Rep.below R _ _ (JA E h4 hx)))
    ·simp at hv
   ·simp at hv
  ·simp at hv
 ·
  rename_i c sz by_ x' y';split at hc
  ·rename_i hcal;split at hc
   ·rename_i x y t tx hargs hts;simp only[Ah]at hc;obtain⟨⟨h1,h2⟩,h3⟩:=hc;unfold JwP at h1;split at h1
    ·rename_i el e' hu hux;split at h1
     ·rename_i i hi;simp only[Ah,beq_iff_eq]at h1;obtain⟨⟨hsz,hby⟩,h1⟩:=h1;split at h1
      ·rename_i z hz;simp only[beq_iff_eq]at h1;simp only[XN]at hv;split at hv
       ·rename_i u1 u2 hx hy;split at hv
        ·rename_i v1 S1 happ;simp only[V,AP]at hv;obtain⟨rfl,rfl⟩:=hv;obtain⟨v',K',w',hrun,hr,R',hh,hst⟩:=Jtr (P:=P) (ty:=type) R hu hi hz hsz h1 hby hux (JA E h2 hx) (JA E h3 hy) happ;have hargs':c.args=#[x,y]:=by apply Cr;simpa using hargs
         have hts':c.argTypes=#[t,tx]:=by apply Cr;simpa using hts
         have hrun':(execOp a.eval {dst:=dst,op:=.call c,type:=type,pos:=pos,after:=after,guard:=guard}).run P w=.ok (.value v') w':=by simp[execOp,resolve,hcal,hargs',hts',invoke,builtin,hrun]
         rw[hrun'];exact hnext _ _ K' w' rfl hr R' (hst _) (Jig hh)
        ·simp at hv
       ·simp at hv
      ·simp at h1
     ·simp at h1
    ·simp at h1
   ·simp at hc
  ·simp at hc
 ·
  rename_i c f args;split at hc
  ·rename_i g hcal;simp only[Ah]at hc;obtain⟨h1,h2⟩:=hc;simp only[XN]at hv;split at hv
   ·rename_i fn first cap vs hf hvs
    have hrf:=JA E h1 hf;simp only[Rep]at hrf;obtain⟨us1,us2,hfv,hr1,hr2⟩:=hrf;have hra:=Jc9 E h2 hvs;have hargs:(us1.toArray++(c.args.map a.eval)++us2.toArray)=(us1++c.args.toList.map a.eval++us2).toArray:=by apply Cr;simp
    have hT:RepT K (first++vs++cap) (us1++c.args.toList.map a.eval++us2):=(hr1.append hra).append hr2;have hexec:(execOp a.eval {dst:=dst,op:=.call c,type:=type,pos:=pos,after:=after,guard:=guard}).run P w=(callFunc fn (us1++c.args.toList.map a.eval++us2).toArray).run P w:=by rw[<- hargs];simp[execOp,resolve,hcal,Deferred.ofValue,hfv,invoke]
    rw[hexec];rcases hcl fn _ S r S' hv K w _ R hsc hT with⟨hrun,hcalls⟩ |⟨u,w',hrun,K',R',hst,hk,hpost⟩
    ·rw[hrun];refine Calls.mono hcalls λen w' hp=>?_;obtain⟨K',R',hst,hk,hpost⟩:=hp;have hk':Keeps b0 S S':=hk.mono hb0;cases r with
     | ret v=>obtain⟨u,rfl,hr⟩:=hpost;exact hnext v u K' w' rfl hr R' hst hk'
     | panic v=>obtain⟨u,rfl,hr⟩:=hpost;exact hpanic v u K' w' rfl hr R' hst hk'
    ·rw[hrun];have hk':Keeps b0 S S':=hk.mono hb0;cases r with
     | ret v=>obtain⟨u',hu,hr⟩:=hpost;cases hu;exact hnext v u K' w' rfl hr R' hst hk'
     | panic v=>obtain⟨u',hu,hr⟩:=hpost;cases hu
   ·simp at hv
  ·simp at hc
 ·
  rename_i x x';simp only[XN]at hv;split at hv
  ·rename_i t u hx;simp only[V,AP]at hv;obtain⟨rfl,rfl⟩:=hv;have hr:=JA E hc hx;have hr':=hr;simp only[Rep]at hr';obtain⟨u',hu,_⟩:=hr';have hrun':(execOp a.eval {dst:=dst,op:=.panic x,type:=type,pos:=pos,after:=after,guard:=guard}).run P w=.halt (.panic (a.eval x)) w:=by simp[execOp,hu,Instr.panic]
   rw[hrun'];exact hpanic _ _ K w rfl hr R (Step.refl _ _ _) (KY _ _)
  ·simp at hv
 ·simp at hc
variable {P:Program} {K:Ghost} {S S':St} {w:World} {a:Act} {v:AV}
def Jct(ops:Array Oper):Option (Nat×Bool)->Option (Nat×Bool)->Bool
 | none,none=>true
 | some (j,b),some (s,b')=>(ops[j]?).bind (·.dst) == some s && b == b'
 | _,_=>false
def VM(P:Program)(ops:Array Oper)(nt:Nat)(it:Item):Bool:=
 match ops[it.ix]? with
 | some o=>o.dst == it.dst && (match it.dst with |some d=>decide (d<nt) |none=>true) && Jct ops o.guard it.guard &&
  match it.op with
  | .q q=>JoQ P o.op q
  | .l l _=>JwQ P o.op l
 | none=>false
def Item.makes(base:Nat)(it:Item)(n:Nat):Prop:=
 match it.op with
 | .q q=>q.makes base n
 | .l _ _=>False
theorem Jas{ops:Array Oper}{o:Oper}{g:Option (Nat×Bool)}{ρ:V8}{b:Bool}(hg:Jct ops o.guard g=true)(E:EnvRep K ρ a.tmps)(hw:wanted g ρ=some b) :
  Region.wanted o (yielded ops a.tmps)=b:=by
 unfold Jct at hg;unfold Region.wanted;split at hg
 ·rename_i h1;rw[h1];simpa [wanted] using hw
 ·rename_i j want s want' h1;simp only[Ah,beq_iff_eq]at hg;obtain⟨h2,rfl⟩:=hg;rw[h1];simp only[wanted]at hw;have key:∀(u:AV),ρ s=some u->a.tmps[s]? = some (a.tmps.getD s Go.undef)/\Rep K u (a.tmps.getD s Go.undef):=by intro u hu;have:=E s u hu;refine⟨?_,this.2⟩;rw[AX,Db this.1];simp
  split at hw
  ·rename_i b' hs;obtain⟨k1,k2⟩:=key _ hs;simp only[Rep]at k2;simp only[V]at hw;subst hw;simp only[yielded,h2,Co,k1,k2];cases b' <;> cases want <;> rfl
  ·rename_i hs;obtain⟨k1,k2⟩:=key _ hs;simp only[Rep]at k2;simp only[V]at hw;subst hw;simp only[yielded,h2,Co,k1,k2];cases want <;> rfl
  ·simp at hw
 ·simp at hg
theorem Jkc{b0 base nt:Nat}{cl:Ky}{ops:Array Oper}{it:Item}{e e':KC}{r:Option AV}{Kont:Act->World->Prop}{Q:Exit->Act->World->Prop}(hc:VM P ops nt it=true)(hcl:VF P cl)
  (R:Rel K S w) (hsc:VL S.heap.length S) (E:EnvRep K (Jj e) a.tmps) (hnt:nt<=a.tmps.size) (hb0:b0<=S.heap.length) (hal:∀ n,it.makes base n->K.m n=none) (hs:YR b0 cl base it e S=some (r,e',S'))
  (hk:∀ a' w' K',r=none->Rel K' S' w'->EnvRep K' (Jj e') a'.tmps->a'.tmps.size=a.tmps.size->a'.defers=a.defers->Step K (λn=>n<S.heap.length/\¬ it.makes base n) w K' w'->Keeps b0 S S'->Kont a' w')
  (hp:∀ v u w' K',r=some v->Rep K' v u->Rel K' S' w'->Step K (λn=>n<S.heap.length/\¬ it.makes base n) w K' w'->Keeps b0 S S'->Q (.panic [{v:=u,recovered:=false}]) a w') :
  wpOp P ops Q it.ix Kont a w:=by
 unfold VM at hc;split at hc
 ·rename_i o ho;simp only[Ah,beq_iff_eq]at hc;obtain⟨⟨⟨h1,h2⟩,h3⟩,h4⟩:=hc;have hd:∀ t,it.dst=some t->t<a.tmps.size:=λt ht=>by rw[ht]at h2;simp only[decide_eq_true_eq]at h2;omega
  have hsz:∀ u,(a.put it.dst u).tmps.size=a.tmps.size:=λu=>by cases it.dst <;> simp[Act.put]
  have hdf:∀ u,(a.put it.dst u).defers=a.defers:=λu=>by cases it.dst <;> simp[Act.put]
  unfold wpOp;simp only[ho];unfold YR at hs;split at hs
  ·simp at hs
  ·
   rename_i hw;simp only[V,AP]at hs;obtain⟨rfl,rfl,rfl⟩:=hs;rw[Jas h3 E hw];simp only[AT,if_false];rw[h1];exact hk _ w K rfl R (E.put (by simp[Rep,Go.undef]) it.dst hd) (hsz _) (hdf _) (Step.refl _ _ _) (KY _ _)
  ·rename_i hw;rw[Jas h3 E hw];simp only[if_true];left;split at hs
   ·rename_i q hq;rw[hq]at h4;split at hs
    ·rename_i v hv;simp only[V,AP]at hs;obtain⟨rfl,rfl,rfl⟩:=hs;obtain⟨v',K',w',hrun,hr,R',hst⟩:=JSR h4 R E hv (λn hn=>hal n (by unfold Item.makes;rw[hq];exact hn));unfold Oper.wp;rw[hrun];show Kont (a.put o.dst v') w';rw[h1];refine hk _ w' K' rfl R' ((E.ext hst.ext).put hr it.dst hd) (hsz _) (hdf _) (hst.mono ?_) (KY _ _);rintro n ⟨_,hn⟩ hm;exact hn (by unfold Item.makes;rw[hq];exact hm)
    ·simp at hs
   ·rename_i l re hl;rw[hl]at h4;split at hs
    ·rename_i v S1 hv;simp only[V,AP]at hs;obtain⟨rfl,rfl,rfl⟩:=hs;refine lwp h4 hcl R hsc E hb0 hv ?_ ?_
     ·intro v1 v' K' w' hr hrep R' hst hkp;cases hr;rw[h1];exact hk _ w' K' rfl R' ((E.ext hst.ext).put hrep it.dst hd) (hsz _) (hdf _) (hst.mono (λn hn=>hn.1)) hkp
     ·intro v1 v' K' w' hr;cases hr
    ·rename_i v S1 hv;simp only[V,AP]at hs;obtain⟨rfl,rfl,rfl⟩:=hs;refine lwp h4 hcl R hsc E hb0 hv ?_ ?_
     ·intro v1 v' K' w' hr;cases hr
     ·intro v1 v' K' w' hr hrep R' hst hkp;cases hr;exact hp _ v' w' K' rfl hrep R' (hst.mono (λn hn=>hn.1)) hkp
    ·simp at hs
 ·simp at hc
def Item.alloc?(it:Item):Option Nat:=
 match it.op with
 | .q (.alloc j _)=>some j
 | _=>none
theorem VA{it:Item}{base n:Nat}:it.makes base n↔∃ j,it.alloc? = some j/\n=base+j:=by
 unfold Item.makes Item.alloc?;split
 ·rename_i q hq;rw[hq];cases q <;> simp[QOp.makes]
 ·rename_i l re hl;rw[hl];simp
def JdV:List Nat->Bool
 | []=>true
 | x::xs=>!xs.contains x && JdV xs
theorem Yb:∀{l:List Nat},JdV l=true->l.Nodup
 | [],_=>DP
 | x::xs,h=>by simp only[JdV,Ah,Bb,BD]at h;exact B6.2 ⟨by simpa using h.1,Yb h.2⟩
structure Pend(K:Ghost)(base:Nat)(S:St)(items:List Item):Prop where
 none:∀ it∈items,∀ n,it.makes base n->K.m n=none
 lt:∀ it∈items,∀ n,it.makes base n->n<S.heap.length
 nodup:(items.filterMap Item.alloc?).Nodup
theorem Pend.next{K':Ghost}{base:Nat}{it:Item}{rest:List Item}(h:Pend K base S (it::rest)){w':World}(hst:Step K (λn=>n<S.heap.length/\¬ it.makes base n) w K' w')(hl:S.heap.length<=S'.heap.length):Pend K' base S' rest:=by
 refine⟨λit' hi n hn=>?_,λit' hi n hn=>Bh (h.lt it' (A7 _ hi) n hn) hl,?_⟩
 ·refine hst.back n ⟨h.lt it' (A7 _ hi) n hn,λhm=>?_⟩ (h.none it' (A7 _ hi) n hn);obtain⟨j,hj,rfl⟩:=VA.1 hm;obtain⟨j',hj',heq⟩:=VA.1 hn;have:j=j':=O;subst this;have hnd:=h.nodup;rw[BY,hj]at hnd;exact(B6.1 hnd).1 (CW.2 ⟨it',hi,hj'⟩)
 ·have hnd:=h.nodup;rw[BY]at hnd;split at hnd
  ·exact hnd
  ·exact(B6.1 hnd).2
theorem Jkd{b0 base nt:Nat}{cl:Ky}{ops:Array Oper}{Q:Exit->Act->World->Prop}{N:Nat}(hcl:VF P cl):∀(items prev:List Item) (K:Ghost) (S:St) (w:World) (a:Act) (e e':KC) (r:Option AV) (S':St),
  (∀ it∈items,VM P ops nt it=true)->Rel K S w->VL S.heap.length S->EnvRep K (Jj e) a.tmps->nt<=a.tmps.size->b0<=S.heap.length->N<=S.heap.length->Pend K base S items->N<=base ->
  run b0 cl base prev items e S=some (r,e',S') ->
  (∀ a' w' K',r=none->Rel K' S' w'->EnvRep K' (Jj e') a'.tmps->a'.tmps.size=a.tmps.size->a'.defers=a.defers->Step K (λn=>n<N) w K' w'->Keeps b0 S S'->Q .normal a' w') ->
  (∀ v u a' w' K',r=some v->Rep K' v u->Rel K' S' w'->a'.defers=a.defers->Step K (λn=>n<N) w K' w'->Keeps b0 S S'->Q (.panic [{v:=u,recovered:=false}]) a' w') ->
  wpOps P ops Q (items.map (·.ix)) a w
 | [],prev,K,S,w,a,e,e',r,S',_,R,_,E,_,_,_,_,_,hrun,hk,_=>by simp only[run,V,AP]at hrun;obtain⟨rfl,rfl,rfl⟩:=hrun;exact hk a w K rfl R E rfl rfl (Step.refl _ _ _) (KY _ _)
 | it::rest,prev,K,S,w,a,e,e',r,S',hc,R,hsc,E,hnt,hb0,hN,hpd,hNb,hrun,hk,hp=>by
  rw[Ap,wpOps_cons];simp only[run]at hrun;have hmk:∀ n,n<N->n<S.heap.length/\¬ it.makes base n:=λn hn=>⟨O,λhm=>by obtain⟨j,_,rfl⟩:=VA.1 hm;omega⟩
  split at hrun
  ·simp at hrun
  ·rename_i v e1 S1 hs;simp only[V,AP]at hrun;obtain⟨rfl,rfl,rfl⟩:=hrun;refine Jkc (hc it Ag) hcl R hsc E hnt hb0 (hpd.none it Ag) hs ?_ ?_
   ·intro a' w' K' h;cases h
   ·intro v' u w' K' hv hr R' hst hkp;exact hp v' u a w' K' hv hr R' rfl (hst.mono hmk) hkp
  ·rename_i e1 S1 hs;split at hrun
   ·refine Jkc (hc it Ag) hcl R hsc E hnt hb0 (hpd.none it Ag) hs ?_ ?_
    ·intro a1 w1 K1 _ R1 E1 hsz hdf hst hkp;have hkl:=hkp.1;refine Jkd hcl rest (it::prev) K1 S1 w1 a1 e1 e' r S' (λi hi=>hc i (A7 _ hi)) R1 (hkp.2.2 hsc) E1 O O O (hpd.next hst hkl) hNb hrun ?_ ?_
     ·intro a' w' K' hr R' E' hsz' hdf' hst' hkp';exact hk a' w' K' hr R' E' O (hdf'.trans hdf) ((hst.mono hmk).trans hst' (λ_ h=>h)) (hkp.trans hkp')
     ·intro v u a' w' K' hr hrep R' hdf' hst' hkp';exact hp v u a' w' K' hr hrep R' (hdf'.trans hdf) ((hst.mono hmk).trans hst' (λ_ h=>h)) (hkp.trans hkp')
    ·intro v u w' K' h;cases h
   ·simp at hrun
def Opd.reads:Opd->List Nat
 | .tmp t=>[t]
 | .const _=>[]
def Jih:Option Opd->List Nat
 | some x=>x.reads
 | none=>[]
def Jba:List (Nat×Nat×Opd)->List Nat
 | []=>[]
 |(_,_,x)::ps=>x.reads++Jba ps
def Ym:List Opd->List Nat
 | []=>[]
 | x::xs=>x.reads++Ym xs
def QOp.reads:QOp->List Nat
 | .mov x |.load _ x |.nilCheck x |.unot x |.uneg x |.conv _ x |.convS x |.mkIface _ x |.fieldAddr _ x |.field _ _ x |.tassert _ _ x |.extract x _ |.len x |.lenS x |.lenM x=>x.reads
 | .pick c a b=>c.reads++(a.reads++b.reads)
 | .alloc _ _=>[]
 | .build _ ps=>Jba ps
 | .mkList _ xs=>Ym xs
 | .bin _ _ x y |.min2 x y |.indexAddr _ x y |.index x y |.lookup _ _ x y=>x.reads++y.reads
 | .mkFunc _ a b=>Ym a++Ym b
 | .slice _ x l h |.sliceS x l h=>x.reads++(Jih l++Jih h)
def LOp.reads:LOp->List Nat
 | .store _ x y |.mkSlice _ _ _ x y |.append _ _ x y=>x.reads++y.reads
 | .box x |.panic x=>x.reads
 | .append1 _ _ x y z u d _ _=>x.reads++(y.reads++(z.reads++(u.reads++[d])))
 | .mkMap=>[]
 | .mkArr _ xs=>Ym xs
 | .mapUpd x y z=>x.reads++(y.reads++z.reads)
 | .call f xs=>f.reads++Ym xs
def IOp.reads:IOp->List Nat
 | .q o=>o.reads
 | .l o _=>o.reads
def JdW:Option (Nat×Bool)->List Nat
 | none=>[]
 | some (s,_)=>[s]
def Item.reads(it:Item):List Nat:=JdW it.guard++it.op.reads
def QOp.free:QOp->Bool
 | .alloc _ _ |.load _ _ |.lookup _ _ _ _ |.lenM _=>false
 | _=>true
section congr
variable {ρ ρ':V8}
theorem Kq{x:Opd}(h:∀ t∈x.reads,ρ t=ρ' t):x.val ρ=x.val ρ':=by
 cases x with
 | tmp t=>exact h t (by simp[Opd.reads])
 | const v=>rfl
theorem JaO{x:Option Opd}(h:∀ t∈Jih x,ρ t=ρ' t):Jb8 x ρ=Jb8 x ρ':=by
 cases x with
 | none=>rfl
 | some x=>simp only[Jb8];rw[Kq (x:=x) h]
theorem Zr:∀{xs:List Opd},(∀ t∈Ym xs,ρ t=ρ' t)->X9 xs ρ=X9 xs ρ'
 | [],_=>rfl
 | x::xs,h=>by simp only[X9];rw[Kq (x:=x) (λt ht=>h t (by simp[Ym,ht])),Zr (xs:=xs) (λt ht=>h t (by simp[Ym,ht]))]
theorem JeG:∀{ps:List (Nat×Nat×Opd)} {cs:List AV},(∀ t∈Jba ps,ρ t=ρ' t)->Jcm ρ ps cs=Jcm ρ' ps cs
 | [],_,_=>rfl
 |(off,sz,x)::ps,cs,h=>by
  simp only[Jcm];rw[Kq (x:=x) (λt ht=>h t (by simp[Jba,ht]))];split
  ·split
   ·exact JeG (λt ht=>h t (by simp[Jba,ht]))
   ·rfl
  ·rfl
theorem JdX{q:QOp}{H:List Blk}{base:Nat}(h:∀ t∈q.reads,ρ t=ρ' t):QY q ρ H base=QY q ρ' H base:=by
 cases q <;> simp only[QOp.reads,AM]at h <;> simp only[QY]
 case pick c x y=>rw[Kq (x:=c) (λt ht=>h t (.inl ht)),Kq (x:=x) (λt ht=>h t (.inr (.inl ht))),Kq (x:=y) (λt ht=>h t (.inr (.inr ht)))]
 case build zs ps=>rw[JeG h]
 case mkList sz xs=>rw[Zr h]
 case mkFunc f x y=>rw[Zr (xs:=x) (λt ht=>h t (.inl ht)),Zr (xs:=y) (λt ht=>h t (.inr ht))]
 case slice sz x l hh=>rw[Kq (x:=x) (λt ht=>h t (.inl ht)),JaO (x:=l) (λt ht=>h t (.inr (.inl ht))),JaO (x:=hh) (λt ht=>h t (.inr (.inr ht)))]
 case sliceS x l hh=>rw[Kq (x:=x) (λt ht=>h t (.inl ht)),JaO (x:=l) (λt ht=>h t (.inr (.inl ht))),JaO (x:=hh) (λt ht=>h t (.inr (.inr ht)))]
 case bin tk op x y=>rw[Kq (x:=x) (λt ht=>h t (.inl ht)),Kq (x:=y) (λt ht=>h t (.inr ht))]
 case min2 x y=>rw[Kq (x:=x) (λt ht=>h t (.inl ht)),Kq (x:=y) (λt ht=>h t (.inr ht))]
 case indexAddr sz x y=>rw[Kq (x:=x) (λt ht=>h t (.inl ht)),Kq (x:=y) (λt ht=>h t (.inr ht))]
 case index x y=>rw[Kq (x:=x) (λt ht=>h t (.inl ht)),Kq (x:=y) (λt ht=>h t (.inr ht))]
 case lookup zero ok x y=>rw[Kq (x:=x) (λt ht=>h t (.inl ht)),Kq (x:=y) (λt ht=>h t (.inr ht))]
 all_goals rw[Kq h]
theorem Jr9{q:QOp}{H H':List Blk}{base:Nat}(h:q.free=true):QY q ρ H base=QY q ρ H' base:=by cases q <;> simp[QOp.free]at h <;> rfl
theorem JoS{l:LOp}{b0:Nat}{cl:Ky}{S:St}(h:∀ t∈l.reads,ρ t=ρ' t):XN b0 cl l ρ S=XN b0 cl l ρ' S:=by
 cases l <;> simp only[LOp.reads,AM]at h <;> simp only[XN]
 case store k x y=>rw[Kq (x:=x) (λt ht=>h t (.inl ht)),Kq (x:=y) (λt ht=>h t (.inr ht))]
 case mkSlice sz by_ zs x y=>rw[Kq (x:=x) (λt ht=>h t (.inl ht)),Kq (x:=y) (λt ht=>h t (.inr ht))]
 case append sz by_ x y=>rw[Kq (x:=x) (λt ht=>h t (.inl ht)),Kq (x:=y) (λt ht=>h t (.inr ht))]
 case append1 sz by_ x y z u d _ _=>rw[Kq (x:=x) (λt ht=>h t (.inl ht)),Kq (x:=y) (λt ht=>h t (.inr (.inl ht))),Kq (x:=z) (λt ht=>h t (.inr (.inr (.inl ht)))),Kq (x:=u) (λt ht=>h t (.inr (.inr (.inr (.inl ht))))),h d (.inr (.inr (.inr (.inr Ag))))]
 case mkArr sz xs=>rw[Zr h]
 case mapUpd x y z=>rw[Kq (x:=x) (λt ht=>h t (.inl ht)),Kq (x:=y) (λt ht=>h t (.inr (.inl ht))),Kq (x:=z) (λt ht=>h t (.inr (.inr ht)))]
 case call f xs=>rw[Kq (x:=f) (λt ht=>h t (.inl ht)),Zr (xs:=xs) (λt ht=>h t (.inr ht))]
 case box x=>rw[Kq h]
 case panic x=>rw[Kq h]
theorem Jbz{g:Option (Nat×Bool)}(h:∀ t∈JdW g,ρ t=ρ' t):wanted g ρ=wanted g ρ':=by
 cases g with
 | none=>rfl
 | some g=>obtain⟨s,b⟩:=g;simp only[wanted];rw[h s (by simp[JdW])]
end congr
variable {b0 base:Nat} {cl:Ky}
theorem Zs{it:Item}{e e1:KC}{S:St}(h:∀ t∈it.reads,Jj e t=Jj e1 t){r:Option AV}{e':KC}{S':St}(hs:YR b0 cl base it e S=some (r,e',S')) :
  (∃ v,r=some v/\YR b0 cl base it e1 S=some (r,e1,S'))\/∃ v,r=none/\e'=KD e it.dst v/\YR b0 cl base it e1 S=some (none,KD e1 it.dst v,S'):=by
 have hw:=Jbz (g:=it.guard) (ρ:=Jj e) (ρ':=Jj e1) (λt ht=>h t (by simp[Item.reads,ht]));unfold YR at hs |-;rw[<- hw];split at hs
 ·simp at hs
 ·simp only[V,AP]at hs;obtain⟨rfl,rfl,rfl⟩:=hs;exact .inr ⟨_,rfl,rfl,rfl⟩
 ·split at hs
  ·rename_i q hq;have hqv:=JdX (q:=q) (H:=S.heap) (base:=base) (ρ:=Jj e) (ρ':=Jj e1) (λt ht=>h t (by simp[Item.reads,hq,IOp.reads,ht]));rw[<- hqv];split at hs
   ·simp only[V,AP]at hs;obtain⟨rfl,rfl,rfl⟩:=hs;exact .inr ⟨_,rfl,rfl,rfl⟩
   ·simp at hs
  ·rename_i l re hl;have hlv:=JoS (l:=l) (b0:=b0) (cl:=cl) (S:=S) (ρ:=Jj e) (ρ':=Jj e1) (λt ht=>h t (by simp[Item.reads,hl,IOp.reads,ht]));rw[<- hlv];split at hs
   ·simp only[V,AP]at hs;obtain⟨rfl,rfl,rfl⟩:=hs;exact .inr ⟨_,rfl,rfl,rfl⟩
   ·simp only[V,AP]at hs;obtain⟨rfl,rfl,rfl⟩:=hs;exact .inl ⟨_,rfl,rfl⟩
   ·simp at hs
theorem Jat{e:KC}{d:Option Nat}{v:AV}{t:Nat}(h:d≠some t):Jj (KD e d v) t=Jj e t:=by
 cases d with
 | none=>rfl
 | some d=>simp only[KD,Jj];rw[if_neg (λhh=>h (by rw[hh]))]
theorem JjO{e:KC}{d:Nat}{v:AV}:Jj (KD e (some d) v) d=some v:=by simp[KD,Jj]
theorem Jii{e e1:KC}(h:Jj e=Jj e1)(d:Option Nat)(v:AV):Jj (KD e d v)=Jj (KD e1 d v):=by
 cases d with
 | none=>exact h
 | some d=>funext t;simp only[KD,Jj];rw[h]
theorem Jsa(e:KC){d d':Option Nat}(v v':AV)(h:∀ t,d=some t->d'≠some t):Jj (KD (KD e d v) d' v')=Jj (KD (KD e d' v') d v):=by
 cases d with
 | none=>rfl
 | some d=>
  cases d' with
  | none=>rfl
  | some d'=>
   funext t
   simp only[KD,Jj];by_cases h1:d'=t
   ·subst h1;have:d≠d':=λhh=>h d rfl (by rw[hh]);simp[this]
   ·simp[h1]
def Item.isQ(it:Item):Bool:=
 match it.op with
 | .q _=>true
 | .l _ _=>false
def Jcu(it:Item)(ρ:V8)(H:List Blk)(base:Nat):Option AV:=
 match wanted it.guard ρ with
 | none=>none
 | some false=>some .undef
 | some true=>match it.op with
  | .q o=>QY o ρ H base
  | .l _ _=>none
theorem Jij{it:Item}{e:KC}{S:St}(h:it.isQ=true):YR b0 cl base it e S=(Jcu it (Jj e) S.heap base).map λv=>(none,KD e it.dst v,S):=by
 unfold Item.isQ at h;split at h
 ·rename_i o ho;unfold YR Jcu;simp only[ho];cases wanted it.guard (Jj e)with
  | none=>rfl
  | some b=>
   cases b
   ·rfl
   ·simp only;cases QY o (Jj e) S.heap base <;> rfl
 ·simp at h
theorem JoT{it:Item}{ρ ρ':V8}{H:List Blk}(h:∀ t∈it.reads,ρ t=ρ' t):Jcu it ρ H base=Jcu it ρ' H base:=by
 unfold Jcu;rw[Jbz (g:=it.guard) (λt ht=>h t (by simp[Item.reads,ht]))];split
 ·rfl
 ·rfl
 ·split
  ·rename_i o ho;exact JdX (λt ht=>h t (by simp[Item.reads,ho,IOp.reads,ht]))
  ·rfl
def Item.free(it:Item):Bool:=
 match it.op with
 | .q o=>o.free
 | .l _ _=>false
theorem Jke{it:Item}{ρ:V8}{H H':List Blk}(h:it.free=true):Jcu it ρ H base=Jcu it ρ H' base:=by
 unfold Jcu Item.free at *;split
 ·rfl
 ·rfl
 ·split at h
  ·exact Jr9 h
  ·simp at h
def Jcv(H:List Blk)(base:Nat):List Item->KC->Option KC
 | [],e=>some e
 | k::A,e=>match Jcu k (Jj e) H base with
  | some v=>Jcv H base A (KD e k.dst v)
  | none=>none
theorem J5(prev:List Item)(e:KC)(H:List Blk):J8 prev [] e H base=true:=by unfold J8;rw[Bo];intro x _;simp
theorem JoU{it:Item}(h:it.isQ=true):Jto it.op=[]:=by
 unfold Item.isQ at h;split at h
 ·rename_i o ho;rw[ho];rfl
 ·simp at h
theorem JfB:∀(A L prev:List Item) (e:KC) (S:St),(∀ k∈A,k.isQ=true) ->
  run b0 cl base prev (A++L) e S=match Jcv S.heap base A e with
   | some eA=>run b0 cl base (A.reverse++prev) L eA S
   | none=>none
 | [],L,prev,e,S,_=>by simp[Jcv]
 | k::A,L,prev,e,S,h=>by
  have hk:=h k Ag;simp only[Aw,run,Jij hk,Jcv,JoU hk];cases Jcu k (Jj e) S.heap base with
  | none=>rfl
  | some v=>simp only[A9,J5,if_true];rw[JfB A L (k::prev) _ S (λx hx=>h x (by simp[hx]))];simp
theorem Jik{H:List Blk}:∀(A:List Item) {e e1 eA:KC},Jj e=Jj e1->Jcv H base A e=some eA->∃ eB,Jcv H base A e1=some eB/\Jj eA=Jj eB
 | [],e,e1,eA,h,hq=>by simp only[Jcv,V]at hq;subst hq;exact⟨e1,rfl,h⟩
 | k::A,e,e1,eA,h,hq=>by
  simp only[Jcv]at hq |-;rw[<- h];split at hq
  ·rename_i v hv;exact Jik A (Jii h _ _) hq
  ·simp at hq
def Jtt(H H':List Blk)(base:Nat):List Item->KC->Prop
 | [],_=>True
 | k::A,e=>Jcu k (Jj e) H' base=Jcu k (Jj e) H base/\∀ v,Jcu k (Jj e) H base=some v->Jtt H H' base A (KD e k.dst v)
def JoV(d:Option Nat)(l:List Nat):Bool:=
 match d with
 | some d=>!l.contains d
 | none=>true
theorem Jbb{d:Option Nat}{l:List Nat}(h:JoV d l=true):∀ t∈l,d≠some t:=by intro t ht hd;subst hd;simp only[JoV,Bb,BD,decide_eq_false_iff_not]at h;exact h ht
def JmV:Option Nat->Option Nat->Bool
 | some a,some b=>a != b
 | _,_=>true
theorem JdY{a b:Option Nat}(h:JmV a b=true):∀ t,a=some t->b≠some t:=by rintro t rfl hb;subst hb;simp[JmV]at h
def Jil(k x:Item):Bool:=JoV x.dst k.reads && JoV k.dst x.reads && JmV k.dst x.dst
theorem Jim{H H':List Blk}{x:Item}{v:AV}:∀(A:List Item) {e eA:KC},(∀ k∈A,Jil k x=true)->Jtt H H' base A e->Jcv H base A e=some eA ->
  ∃ eB,Jcv H' base A (KD e x.dst v)=some eB/\Jj eB=Jj (KD eA x.dst v)
 | [],e,eA,_,_,hq=>by simp only[Jcv,V]at hq;subst hq;exact⟨_,rfl,rfl⟩
 | k::A,e,eA,hi,hs,hq=>by
  have hk:=hi k Ag;simp only[Jil,Ah]at hk;obtain⟨⟨h1,h2⟩,h3⟩:=hk;simp only[Jcv]at hq |-;obtain⟨hs1,hs2⟩:=hs;have hkv:Jcu k (Jj (KD e x.dst v)) H' base=Jcu k (Jj e) H base:=by rw[JoT (ρ':=Jj e) (λt ht=>Jat (Jbb h1 t ht)),hs1]
  rw[hkv];split at hq
  ·rename_i u hu;obtain⟨eB,hB,hBe⟩:=Jim A (λk hk=>hi k (by simp[hk])) (hs2 u hu) hq;obtain⟨eC,hC,hCe⟩:=Jik A (Jsa e u v (JdY h3)) hB;exact⟨eC,hC,hCe.symm.trans hBe⟩
  ·simp at hq
theorem JbA{H:List Blk}:∀(A:List Item) {e eA:KC} {t:Nat},(∀ k∈A,k.dst≠some t)->Jcv H base A e=some eA->Jj eA t=Jj e t
 | [],e,eA,t,_,hq=>by simp only[Jcv,V]at hq;subst hq;rfl
 | k::A,e,eA,t,h,hq=>by
  simp only[Jcv]at hq;split at hq
  ·rw[JbA A (λk hk=>h k (by simp[hk])) hq,Jat (h k Ag)]
  ·simp at hq
def Jin(k x:Item):Bool:=k.free ||(JoV x.dst k.reads && JmV k.dst x.dst)
def JeH(k:Item):Bool:=k.free || JoV k.dst k.reads
theorem Jqn{H H':List Blk}{re:List Nat}{x:Item}{v:AV}:∀(A:List Item) {e eA:KC},(∀ k∈A,k.isQ=true)->(∀ k∈A,k.free=true\/k.ix∈re)->List.Pairwise (λk y=>Jin k y=true) A->(∀ k∈A,Jin k x=true) ->
  (∀ k∈A,JeH k=true)->Jcv H base A e=some eA->(∀ k∈A,J8 [k] re (KD eA x.dst v) H' base=true)->Jtt H H' base A e
 | [],_,_,_,_,_,_,_,_,_=>trivial
 | k::A,e,eA,hq,hf,hpw,hx,hself,hrun,hre=>by
  simp only[Jcv]at hrun;obtain⟨hp1,hp2⟩:=BK.1 hpw;split at hrun
  ·rename_i u hu;refine⟨?_,λv' hv'=>?_⟩
   ·rcases hf k Ag with hfree |hin
    ·exact Jke hfree
    ·by_cases hfr:k.free=true
     ·exact Jke hfr
     ·have hr:=hre k Ag;have hfx:=hx k Ag;have hsf:=hself k Ag;have hfr':k.free=false:=by simpa using hfr
      simp only[Jin,JeH,hfr',B3,Ah]at hfx hsf;have hdst:∀ y∈A,JoV y.dst k.reads=true/\JmV k.dst y.dst=true:=λy hy=>by have:=hp1 y hy;simpa [Jin,hfr] using this
      have hag:∀ t∈k.reads,Jj (KD eA x.dst v) t=Jj e t:=λt ht=>by rw[Jat (Jbb hfx.1 t ht),JbA A (λy hy=>Jbb (hdst y hy).1 t ht) hrun,Jat (Jbb hsf t ht)]
      have hko:∃ o,k.op=.q o:=by
       have:=hq k Ag;unfold Item.isQ at this;split at this
       ·exact⟨_,Aa⟩
       ·simp at this
      obtain⟨o,ho⟩:=hko;unfold J8 at hr;simp only[B1,List.all_nil,CI,ho,Bp,Bb,BD,decide_eq_false_iff_not,hin,not_true_eq_false,false_or]at hr;split at hr
      ·rename_i o' d ho' hd;cases ho';have hw:wanted k.guard (Jj (KD eA x.dst v))=wanted k.guard (Jj e):=Jbz (λt ht=>hag t (by simp[Item.reads,ht]));split at hr
       ·rename_i hwt;rw[hw]at hwt;split at hr
        ·rename_i p q' hp hq';have hpq:=Jaj _ _ hr;subst hpq;have hget:Jj (KD eA x.dst v) d=some u:=by rw[hd]at hfx;rw[Jat (λh=>JdY hfx.2 d rfl h),JbA A (λy hy=>λh=>JdY (hdst y hy).2 d hd h) hrun,hd,JjO]
         rw[hget]at hq';simp only[V]at hq';subst hq';rw[JdX (ρ':=Jj e) (λt ht=>hag t (by simp[Item.reads,ho,IOp.reads,ht]))]at hp;rw[hu];unfold Jcu;rw[hwt];simp only[ho];exact hp
        ·simp at hr
       ·rename_i hwt;rw[hw]at hwt;unfold Jcu;rw[hwt]
       ·simp at hr
      ·simp at hr
   ·rw[hu]at hv';cases hv';exact Jqn A (λy hy=>hq y (by simp[hy])) (λy hy=>hf y (by simp[hy])) hp2 (λy hy=>hx y (by simp[hy])) (λy hy=>hself y (by simp[hy])) hrun (λy hy=>hre y (by simp[hy]))
  ·simp at hrun
theorem Jgv{prev prev':List Item}{re:List Nat}{e e1:KC}{H:List Blk}(hs:∀ k∈prev',k∈prev)(he:Jj e=Jj e1)(h:J8 prev re e H base=true):J8 prev' re e1 H base=true:=by unfold J8 at *;rw[Bo]at *;intro k hk;have:=h k (hs k hk);rw[<- he];exact this
theorem Jhl:∀(L prev prev':List Item) {e e1:KC} {S:St} {r:Option AV} {e':KC} {S':St},(∀ k∈prev',k∈prev)->Jj e=Jj e1->run b0 cl base prev L e S=some (r,e',S') ->
  ∃ e1',run b0 cl base prev' L e1 S=some (r,e1',S')/\Jj e'=Jj e1'
 | [],prev,prev',e,e1,S,r,e',S',_,he,h=>by simp only[run,V,AP]at h;obtain⟨rfl,rfl,rfl⟩:=h;exact⟨e1,rfl,he⟩
 | it::L,prev,prev',e,e1,S,r,e',S',hs,he,h=>by
  simp only[run]at h |-;split at h
  ·simp at h
  ·rename_i v e2 S2 hst;simp only[V,AP]at h;obtain⟨rfl,rfl,rfl⟩:=h;rcases Zs (e1:=e1) (λt _=>by rw[he]) hst with⟨v',hv',h1⟩ |⟨v',hv',_⟩
   ·have h2:e2=e:=by
     rcases Zs (e1:=e) (λt _=>rfl) hst with⟨_,_,h3⟩ |⟨_,h3,_⟩
     ·rw[hst]at h3;simp only[V,AP]at h3;exact h3.2.1
     ·cases h3
    rw[h1];exact⟨e1,rfl,by rw[h2];exact he⟩
   ·cases hv'
  ·rename_i e2 S2 hst;split at h
   ·rename_i hre;rcases Zs (e1:=e1) (λt _=>by rw[he]) hst with⟨v',hv',_⟩ |⟨v',_,h1,h2⟩
    ·cases hv'
    ·rw[h2];simp only;have hee:Jj e2=Jj (KD e1 it.dst v'):=by rw[h1];exact Jii he _ _
     rw[if_pos (Jgv hs hee hre)];exact Jhl L (it::prev) (it::prev') (λk hk=>by
      rcases AS.1 hk with rfl |hk
      ·simp
      ·exact A7 _ (hs k hk)) hee h
   ·simp at h
theorem pull{A B:List Item}{x:Item}{e:KC}{S:St}{r:Option AV}{e':KC}{S':St}(hA:∀ k∈A,k.isQ=true/\Jil k x=true/\(x.isQ=true\/k.free=true\/k.ix∈Jto x.op))
  (hpw:List.Pairwise (λk y=>Jin k y=true) A) (hx:∀ k∈A,Jin k x=true) (hself:∀ k∈A,JeH k=true)
  (h:run b0 cl base [] (A++x::B) e S=some (r,e',S')) :
  (∃ v,r=some v/\YR b0 cl base x e S=some (some v,e,S')) \/
   ∃ e1 S1,YR b0 cl base x e S=some (none,e1,S1)/\∃ e2,run b0 cl base [] (A++B) e1 S1=some (r,e2,S')/\Jj e'=Jj e2:=by
 rw[JfB A _ _ _ _ (λk hk=>(hA k hk).1)]at h;split at h
 ·rename_i eA hqA;simp only[run]at h;have hag:∀ t∈x.reads,Jj eA t=Jj e t:=λt ht=>JbA A (λk hk=>by have:=(hA k hk).2.1;simp only[Jil,Ah]at this;exact Jbb this.1.2 t ht) hqA
  split at h
  ·simp at h
  ·rename_i v e2 S2 hst;simp only[V,AP]at h;obtain⟨rfl,rfl,rfl⟩:=h;rcases Zs (e1:=e) hag hst with⟨v',hv',h1⟩ |⟨v',hv',_⟩
   ·exact .inl ⟨v,rfl,h1⟩
   ·cases hv'
  ·rename_i e2 S2 hst;split at h
   ·rename_i hre;rcases Zs (e1:=e) hag hst with⟨v',hv',_⟩ |⟨v',_,h1,h2⟩
    ·cases hv'
    ·right;refine⟨_,_,h2,?_⟩;have hstab:Jtt S.heap S2.heap base A e:=by
      by_cases hxq:x.isQ=true
      ·have hS:S2=S:=by rw[Jij hxq]at hst;simp only[BN,AP]at hst;obtain⟨_,_,_,_,rfl⟩:=hst;rfl
       subst hS;have:∀(A:List Item) (e:KC),Jtt S2.heap S2.heap base A e:=λA=>by
        induction A with
        | nil=>intro e;trivial
        | cons k A ih=>intro e;exact⟨rfl,λv _=>ih _⟩
       exact this A e
      ·refine Jqn A (λk hk=>(hA k hk).1) (λk hk=>(hA k hk).2.2.resolve_left hxq) hpw hx hself hqA (v:=v') (λk hk=>?_);rw[<- h1];exact Jgv (λk' hk'=>by simp at hk';subst hk';simp[hk]) rfl hre
     obtain⟨eB,hB,hBe⟩:=Jim (x:=x) (v:=v') A (λk hk=>(hA k hk).2.1) hstab hqA;rw[JfB A _ _ _ _ (λk hk=>(hA k hk).1),hB];exact Jhl B _ _ (λk hk=>by simp at hk |-;exact .inr hk) (by rw[h1];exact hBe.symm) h
   ·simp at h
 ·simp at h
def JbB(tab:List Nat):List Edge->Nat
 | []=>0
 | e::es=>if Region.binds .any e then(2 ^ e.on ||| tab.getD e.on 0) ||| JbB tab es else JbB tab es
def JoW(ops:Array Oper):List Nat:=ops.foldl (init:=[]) λtab o=>tab++[JbB tab o.after.toList]
def Jgw(ops:Array Oper)(tab:List Nat):Bool:=
 (List.range ops.size).all λi=>match ops[i]? with
  | some o=>tab.getD i 0 == JbB tab o.after.toList && o.after.toList.all λe=>!Region.binds .any e || decide (e.on<i)
  | none=>true
def JoX(ops:Array Oper)(listed:Array Bool):Prop:=
 ∀ i o e,ops[i]? = some o->listed.getD i false=true->e∈o.after.toList->Region.binds .any e=true->listed.getD e.on false=true
theorem JbC{tab:List Nat}{k:Nat}:∀{es:List Edge},(JbB tab es).testBit k=true->∃ e∈es,Region.binds .any e=true/\(k=e.on\/(tab.getD e.on 0).testBit k=true)
 | [],h=>by simp[JbB]at h
 | e::es,h=>by
  simp only[JbB]at h;split at h
  ·rename_i hb;rw[Nat.testBit_or,Nat.testBit_or,Bp,Bp]at h;rcases h with(h |h) |h
   ·rw[Nat.testBit_two_pow]at h;exact⟨e,Ag,hb,.inl (by simpa using h:e.on=k).symm⟩
   ·exact⟨e,Ag,hb,.inr h⟩
   ·obtain⟨e',h1,h2⟩:=JbC h;exact⟨e',by simp[h1],h2⟩
  ·obtain⟨e',h1,h2⟩:=JbC h;exact⟨e',by simp[h1],h2⟩
theorem JeI{ops:Array Oper}{tab:List Nat}{listed:Array Bool}(hok:Jgw ops tab=true)(hd:JoX ops listed):∀(i:Nat) (o:Oper),ops[i]? = some o ->
  (∀ e∈o.after.toList,Region.binds .any e=true->listed.getD e.on false=true)->∀ k,(tab.getD i 0).testBit k=true->listed.getD k false=true:=by
 intro i;induction i using Nat.strongRecOn with
 | _ i ih=>
  intro o ho hp k hk;have hi:=(AQ.1 ho).1;unfold Jgw at hok;rw[Bo]at hok;have h1:=hok i (Cc.2 hi);simp only[ho,Ah,beq_iff_eq,Bo,Bp,Bb,decide_eq_true_eq]at h1;rw[h1.1]at hk;obtain⟨e,he,hb,hke⟩:=JbC hk;rcases hke with rfl |hke
  ·exact hp e he hb
  ·have hlt:e.on<i:=(h1.2 e he).resolve_left (by simp[hb]);have hl:=hp e he hb;cases ho':ops[e.on]? with
   | none=>rw[Array.getElem?_eq_none_iff]at ho';omega
   | some o'=>exact ih e.on hlt o' ho' (λe' he' hb'=>hd e.on o' e' ho' hl he' hb') k hke
def Zj(tab:List Nat)(k x:Item):Bool:=
 ((tab.getD x.ix 0).testBit k.ix ||(k.isQ && Jil k x && (x.isQ || k.free ||(Jto x.op).contains k.ix))) && Jin k x
def Jio(tab:List Nat):List Item->Bool
 | []=>true
 | k::L=>L.all (Zj tab k) && JeH k && Jio tab L
theorem JaP{tab:List Nat}:∀{L:List Item},Jio tab L=true->List.Pairwise (λk x=>Zj tab k x=true) L/\∀ k∈L,JeH k=true
 | [],_=>⟨List.Pairwise.nil,Ag⟩
 | k::L,h=>by
  simp only[Jio,Ah,Bo]at h;obtain⟨h1,h2⟩:=JaP h.2;refine⟨BK.2 ⟨h.1.1,h1⟩,λx hx=>?_⟩;rcases AS.1 hx with rfl |hx
  ·exact h.1.2
  ·exact h2 x hx
def Jhm(md:Region.Mode)(ops:Array Oper)(done:List Nat):List Nat->Bool
 | []=>true
 | i::M=>(match ops[i]? with
  | some o=>o.after.toList.all λe=>!Region.binds md e || done.contains e.on
  | none=>false) && Jhm md ops (i::done) M
def Jcw(md:Region.Mode)(ops:Array Oper)(M:List Nat):Bool:=Jhm md ops [] M && (List.range ops.size).all M.contains
theorem Jbc{md:Region.Mode}{ops:Array Oper}{listed:Array Bool}(hs:listed.size=ops.size):∀(M done:List Nat),Jhm md ops done M=true->(∀ j∈done,listed.getD j false=true) ->
  (∃ i∈M,listed.getD i true=false)->∃ i,i∈Region.ready md ops listed
 | [],_,_,_,⟨i,hi,_⟩=>by cases hi
 | j::M,done,h,hd,⟨i,hi,hli⟩=>by
  simp only[Jhm,Ah]at h;obtain⟨h1,h2⟩:=h;split at h1
  ·rename_i o ho;have hj:=(AQ.1 ho).1;by_cases hlj:listed.getD j false=true
   ·refine Jbc hs M (j::done) h2 (λx hx=>?_) ?_
    ·rcases AS.1 hx with rfl |hx
     ·exact hlj
     ·exact hd x hx
    ·rcases AS.1 hi with rfl |hi
     ·exfalso;have:listed.getD i true=listed.getD i false:=by simp[Array.getD,hs,hj]
      rw[this,hlj]at hli;cases hli
     ·exact⟨i,hi,hli⟩
   ·refine⟨j,mem_ready.2 ⟨?_,o,ho,λe he hb=>?_⟩⟩
    ·have:listed.getD j true=listed.getD j false:=by simp[Array.getD,hs,hj]
     rw[this];simpa using hlj
    ·rw[Bo]at h1;have:=h1 e (by simpa using he);simp only[hb,Bool.not_true,B3,BD,decide_eq_true_eq]at this;exact hd _ this
  ·simp at h1
variable {P:Program}
theorem Pend.pull{K K':Ghost}{S S':St}{w w':World}{base:Nat}{A B:List Item}{x:Item}(h:Pend K base S (A++x::B))(hst:Step K (λn=>n<S.heap.length/\¬ x.makes base n) w K' w')(hl:S.heap.length<=S'.heap.length):Pend K' base S' (A++B):=by
 have hperm:(A++x::B).Perm (x::(A++B)):=List.perm_middle;have h':Pend K base S (x::(A++B)):=⟨λit hi=>h.none it (hperm.mem_iff.2 hi),λit hi=>h.lt it (hperm.mem_iff.2 hi),(hperm.filterMap _).nodup_iff.1 h.nodup⟩
 exact h'.next hst hl
theorem JmW{b0 base nt:Nat}{cl:Ky}{ops:Array Oper}{Q:Exit->Act->World->Prop}{N:Nat}{md:Region.Mode}{tab M:List Nat}(hcl:VF P cl)(hmd:∀ e,Region.binds .any e=true->Region.binds md e=true)
  (hok:Jgw ops tab=true) (hM:Jcw md ops M=true):∀(m:Nat) (L:List Item) (listed:Array Bool) (K:Ghost) (S:St) (w:World) (a:Act) (e e':KC) (r:Option AV) (S':St),L.length=m ->
  listed.size=ops.size->JoX ops listed->(∀ i,listed.getD i true=false↔i∈L.map (·.ix))->(L.map (·.ix)).Nodup ->
  List.Pairwise (λk x=>Zj tab k x=true) L->(∀ k∈L,JeH k=true) ->
  (∀ it∈L,VM P ops nt it=true)->Rel K S w->VL S.heap.length S->EnvRep K (Jj e) a.tmps->nt<=a.tmps.size->b0<=S.heap.length->N<=S.heap.length->Pend K base S L->N<=base ->
  run b0 cl base [] L e S=some (r,e',S') ->
  (∀ a' w' K',r=none->Rel K' S' w'->EnvRep K' (Jj e') a'.tmps->a'.tmps.size=a.tmps.size->a'.defers=a.defers->Step K (λn=>n<N) w K' w'->Keeps b0 S S'->Q .normal a' w') ->
  (∀ v u a' w' K',r=some v->Rep K' v u->Rel K' S' w'->a'.defers=a.defers->Step K (λn=>n<N) w K' w'->Keeps b0 S S'->Q (.panic [{v:=u,recovered:=false}]) a' w') ->
  wpAny P md ops Q m listed a w:=by
 intro m;induction m with
 | zero=>intro L listed K S w a e e' r S' hL hls hd hun hnd hpw hself hc R hsc E hnt hb0 hN hpd hNb hrun hk hp;have:L=[]:=Bz.1 hL;subst this;simp only[run,V,AP]at hrun;obtain⟨rfl,rfl,rfl⟩:=hrun;refine⟨?_,hk a w K rfl R E rfl rfl (Step.refl _ _ _) (KY _ _)⟩;rw[DH];intro i hi;have:=(hun i).1 (mem_ready.1 hi).1;simp at this
 | succ m ih=>
  intro L listed K S w a e e' r S' hL hls hd hun hnd hpw hself hc R hsc E hnt hb0 hN hpd hNb hrun hk hp;refine⟨λhr=>?_,λi hi=>?_⟩
  ·exfalso;simp only[Jcw,Ah,Bo]at hM;have hne:L≠[]:=by rintro rfl;simp at hL
   obtain⟨x,hx⟩:=DZ L hne;have hxl:=(hun x.ix).2 (Bw.2 ⟨x,hx,rfl⟩);have hxc:=hc x hx;have hxi:x.ix<ops.size:=by
    unfold VM at hxc;split at hxc
    ·rename_i o ho;exact(AQ.1 ho).1
    ·simp at hxc
   have hxM:=hM.2 x.ix (Cc.2 hxi);obtain⟨j,hj⟩:=Jbc hls M [] hM.1 Ag ⟨x.ix,by simpa using hxM,hxl⟩;rw[hr]at hj;cases hj
  ·obtain⟨hil,o,ho,hpre⟩:=mem_ready.1 hi;obtain⟨x,hx,hxi⟩:=Bw.1 ((hun i).1 hil);subst hxi;obtain⟨A,B,rfl⟩:=CY hx;have hpre':∀ e∈o.after.toList,Region.binds .any e=true->listed.getD e.on false=true:=λe he hb=>hpre e (by simpa using he) (hmd e hb);have hbef:=JeI hok hd x.ix o ho hpre';have hpwA:=(Cb.1 hpw)
   have hAx:∀ k∈A,Zj tab k x=true:=λk hk=>hpwA.2.2 k hk x Ag;have hkl:∀ k∈A,(tab.getD x.ix 0).testBit k.ix=false:=λk hk=>by
    cases hb:(tab.getD x.ix 0).testBit k.ix with
    | false=>rfl
    | true=>
     have h1:=hbef k.ix hb;have h2:=(hun k.ix).2 (Bw.2 ⟨k,by simp[hk],rfl⟩);have hk2:k.ix<listed.size:=by
      rcases Dy k.ix listed.size with h |h
      ·exact h
      ·simp[Array.getD,DO.2 h]at h1
     have:listed.getD k.ix true=listed.getD k.ix false:=by simp[Array.getD,hk2]
     rw[this,h1]at h2;cases h2
   have hpull:=pull (A:=A) (B:=B) (x:=x) (e:=e) (S:=S) (r:=r) (e':=e') (S':=S') (b0:=b0) (cl:=cl) (base:=base) (λk hk=>by have:=hAx k hk;simp only[Zj,hkl k hk,B3,Ah,Bp,BD,decide_eq_true_eq]at this;exact⟨this.1.1.1,this.1.1.2,by rcases this.1.2 with(h |h) |h <;> simp[h]⟩)
    (hpwA.1.imp (fun{k y} h=>by simp only[Zj,Ah]at h;exact h.2))
    (λk hk=>by have:=hAx k hk;simp only[Zj,Ah]at this;exact this.2) (λk hk=>hself k (by simp[hk])) hrun
   have hmk:∀ n,n<N->n<S.heap.length/\¬ x.makes base n:=λn hn=>⟨O,λhm=>by obtain⟨j,_,rfl⟩:=VA.1 hm;omega⟩
   rcases hpull with⟨v,hv,hst⟩ |⟨e1,S1,hst,e2,hrun2,he2⟩
   ·refine Jkc (hc x hx) hcl R hsc E hnt hb0 (hpd.none x hx) hst ?_ ?_
    ·intro a' w' K' h;cases h
    ·intro v' u w' K' hv' hr R' hstp hkp;cases hv';exact hp v u a w' K' hv hr R' rfl (hstp.mono hmk) hkp
   ·refine Jkc (hc x hx) hcl R hsc E hnt hb0 (hpd.none x hx) hst ?_ ?_
    ·intro a1 w1 K1 _ R1 E1 hsz hdf hstp hkp;have hnd':((A++B).map (·.ix)).Nodup/\x.ix ∉ (A++B).map (·.ix):=by rw[An,Ap]at hnd;have h1:=(List.perm_middle.nodup_iff).1 hnd;rw[B6]at h1;rw[An];exact⟨h1.2,h1.1⟩
     have hxs:x.ix<listed.size:=by rw[hls];exact(AQ.1 ho).1
     refine ih (A++B) (listed.setIfInBounds x.ix true) K1 S1 w1 a1 e1 e2 r S' ?_ ?_ ?_ ?_ hnd'.1 ?_ ?_ ?_ R1 (hkp.2.2 hsc) E1 O ?_ ?_ ?_ hNb hrun2 ?_ ?_
     ·simp at hL |-;omega
     ·simpa using hls
     ·intro j oj ej hoj hlj hej hbj;by_cases hjx:x.ix=j
      ·subst hjx;rw[ho]at hoj;cases hoj;exact getD_set_true (hpre' ej hej hbj)
      ·rw[getD_set_ne false hjx]at hlj;exact getD_set_true (hd j oj ej hoj hlj hej hbj)
     ·intro j;by_cases hjx:x.ix=j
      ·subst hjx;have:(listed.setIfInBounds x.ix true).getD x.ix true=true:=by simp[Array.getD,hxs]
       rw[this];simp only[Bool.true_eq_false,false_iff];exact hnd'.2
      ·rw[getD_set_ne true hjx,hun j];simp only[An,Ap,AM,AS];constructor
       ·rintro(h |h |h)
        ·exact .inl h
        ·exact absurd h.symm hjx
        ·exact .inr h
       ·rintro(h |h)
        ·exact .inl h
        ·exact .inr (.inr h)
     ·exact Cb.2 ⟨hpwA.1,(BK.1 hpwA.2.1).2,λk hk y hy=>hpwA.2.2 k hk y (by simp[hy])⟩
     ·exact λk hk=>hself k (by
       rcases AM.1 hk with h |h
       ·simp[h]
       ·simp[h])
     ·exact λk hk=>hc k (by
       rcases AM.1 hk with h |h
       ·simp[h]
       ·simp[h])
     ·have:=hkp.1;omega
     ·have:=hkp.1;omega
     ·exact hpd.pull hstp hkp.1
     ·intro a' w' K' hr R' E' hsz' hdf' hst' hkp';exact hk a' w' K' hr R' (by rw[he2];exact E') O (hdf'.trans hdf) ((hstp.mono hmk).trans hst' (λ_ h=>h)) (hkp.trans hkp')
     ·intro v u a' w' K' hr hrep R' hdf' hst' hkp';exact hp v u a' w' K' hr hrep R' (hdf'.trans hdf) ((hstp.mono hmk).trans hst' (λ_ h=>h)) (hkp.trans hkp')
    ·intro v u w' K' h;cases h
end Go.Proofs.YtmeakjgbjldkdaaGreat.Ai
