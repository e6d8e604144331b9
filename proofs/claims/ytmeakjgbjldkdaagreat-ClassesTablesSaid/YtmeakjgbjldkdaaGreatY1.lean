/- A part of what is proved: Ai1, Ai2, Ai3, Ai4, Ai5. No condition. -/
import GoSem.Dispatch
import Derived.Deep.AppendSrc
import Derived.Deep.MidRow
import Derived.Calls
import Derived.Laws.Strings
set_option maxRecDepth 100000
set_option maxHeartbeats 16000000
namespace Go.Proofs.YtmeakjgbjldkdaaGreat.Ai
open Go
abbrev Str:=List UInt8
inductive Tag where
 | full | row (b e : Nat) | dead | still
 deriving DecidableEq,Inhabited
inductive AV where
 | bool (b : Bool) | int (k : IntKind) (n : Int) | str (s : Str)
 | nilp | ptr (n off : Nat) | ref (cells : List AV)
 | list (sz : Nat) (tag : Tag) (rows : List (List AV))
 | arr (n off sz len : Nat)
 | nilm | map (n : Nat)
 | nilf | func (f : Nat) (first captured : List AV)
 | nili | iface (t : Nat) (v : AV)
 | agg (cs : List AV) | tup (vs : List AV)
 | undef
 deriving Inhabited
def AV.cells : AV → List AV
 | .agg cs => cs
 | v => [v]
def AV.okv : AV → Bool
 | .tup _ | .undef => false
 | _ => true
def AV.one : AV → Bool
 | .agg _ | .tup _ | .undef => false
 | _ => true
mutual
def AV.beq : AV → AV → Bool
 | .bool a,.bool b => a == b
 | .int k a,.int l b => k == l && a == b
 | .str a,.str b => a == b
 | .nilp,.nilp => true
 | .ptr a b,.ptr c d => a == c && b == d
 | .ref a,.ref b => AV.beqL a b
 | .list a t r,.list b u s => a == b && t == u && AV.beqLL r s
 | .arr a b c d,.arr e f g h => a == e && b == f && c == g && d == h
 | .nilm,.nilm => true
 | .map a,.map b => a == b
 | .nilf,.nilf => true
 | .func f a b,.func g c d => f == g && AV.beqL a c && AV.beqL b d
 | .nili,.nili => true
 | .iface t a,.iface u b => t == u && AV.beq a b
 | .agg a,.agg b => AV.beqL a b
 | .tup a,.tup b => AV.beqL a b
 | .undef,.undef => true
 | _,_ => false
def AV.beqL : List AV → List AV → Bool
 | [],[] => true
 | a :: as,b :: bs => AV.beq a b && AV.beqL as bs
 | _,_ => false
def AV.beqLL : List (List AV) → List (List AV) → Bool
 | [],[] => true
 | a :: as,b :: bs => AV.beqL a b && AV.beqLL as bs
 | _,_ => false
end
inductive Blk where
 | cells (cs : List AV)
 | map (es : List (Str × AV))
 deriving Inhabited
structure St where
 heap : List Blk
 rows : List Nat
abbrev Env:=List (Nat × AV)
def eget : Env → Nat → Option AV
 | [],_ => none
 | (d,v) :: e,t => if d = t then some v else eget e t
inductive Opd where
 | tmp (t : Nat) | const (v : AV)
 deriving Inhabited
abbrev Slots:=Nat → Option AV
def Opd.val : Opd → Slots → Option AV
 | .tmp t,e => e t
 | .const v,_ => some v
def vals : List Opd → Slots → Option (List AV)
 | [],_ => some []
 | x :: xs,e => match x.val e,vals xs e with
  | some v,some vs => some (v :: vs)
  | _,_ => none
def canon1 : AV → AV
 | .list sz .full [] => .list sz .full []
 | .list sz _ rows => .list sz .dead rows
 | v => v
def canonL (cs : List AV) : List AV:=cs.map canon1
mutual
def closed1 : AV → Bool
 | .ptr .. | .arr .. | .map _ => false
 | .func _ a b => closedL a && closedL b
 | .ref cs => closedL cs
 | .iface _ v => closed1 v
 | .agg cs => closedL cs
 | .tup cs => closedL cs
 | _ => true
def closedL : List AV → Bool
 | [] => true
 | v :: vs => closed1 v && closedL vs
end
mutual
def below (n : Nat) : AV → Bool
 | .ptr m _ | .arr m _ _ _ | .map m => m < n
 | .func _ a b => belowL n a && belowL n b
 | .ref cs => belowL n cs
 | .iface _ v => below n v
 | .agg cs => belowL n cs
 | .tup cs => belowL n cs
 | _ => true
def belowL (n : Nat) : List AV → Bool
 | [] => true
 | v :: vs => below n v && belowL n vs
end
def chunks (sz : Nat) : Nat → List AV → Option (List (List AV))
 | 0,_ => some []
 | n + 1,cs => if sz ≤ cs.length then (chunks sz n (cs.drop sz)).map (cs.take sz :: ·) else none
def freeze1 (n0 : Nat) (H : List Blk) : AV → AV
 | .arr n off sz len => if n < n0 then .arr n off sz len else
  match H[n]? with
  | some (.cells cs) => match chunks sz len (cs.drop off) with
   | some rows => if closedL cs && 0 < sz then .list sz .dead (rows.map canonL) else .arr n off sz len
   | none => .arr n off sz len
  | _ => .arr n off sz len
 | v => v
def freeze (n0 : Nat) (H : List Blk) : AV → AV
 | .tup vs => .tup (vs.map (freeze1 n0 H))
 | v => freeze1 n0 H v
def aload (k : Option Nat) (a : AV) (H : List Blk) : Option AV:=
 match a with
 | .ptr n off => match H[n]? with
  | some (.cells cs) => match k with
   | none => cs[off]?
   | some m => if off + m ≤ cs.length then some (.agg (canonL ((cs.drop off).take m))) else none
  | _ => none
 | .ref cs => match k with
  | none => cs[0]?
  | some m => if m ≤ cs.length then some (.agg (cs.take m)) else none
 | _ => none
def i64 (n : Int) : AV:=.int .i64 n
def asIx : AV → Option Int
 | .int _ n => some n
 | _ => none
inductive TK where
 | num | bool | ptr
 deriving DecidableEq,Inhabited
def abin (tk : TK) (op : BinOp) (x y : AV) : Option AV:=
 match x,y with
 | .int k a,.int k' b => if k = k' then
   match op with
   | .add => some (.int k (k.wrap (a + b)))
   | .sub => some (.int k (k.wrap (a - b)))
   | .mul => some (.int k (k.wrap (a * b)))
   | .quo => if b = 0 then none else some (.int k (k.wrap (a.tdiv b)))
   | .rem => if b = 0 then none else some (.int k (a.tmod b))
   | .eql => some (.bool (a == b))
   | .neq => some (.bool (a != b))
   | .lss => some (.bool (a < b))
   | .leq => some (.bool (a ≤ b))
   | .gtr => some (.bool (a > b))
   | .geq => some (.bool (a ≥ b))
   | _ => none
  else none
 | .str a,.str b =>
  match op with
  | .add => if a.length + b.length < 4611686018427387904 then some (.str (a ++ b)) else none
  | .eql => some (.bool (a == b))
  | .neq => some (.bool (!(a == b)))
  | .lss => some (.bool (Op.bytesLess a b))
  | .leq => some (.bool (Op.bytesLess a b || (a == b)))
  | .gtr => some (.bool (!(Op.bytesLess a b || (a == b))))
  | .geq => some (.bool (!Op.bytesLess a b))
  | _ => none
 | .bool a,.bool b =>
  match tk,op with
  | .bool,.eql => some (.bool (a == b))
  | .bool,.neq => some (.bool (!(a == b)))
  | _,_ => none
 | .nilp,.nilp => match tk,op with | .ptr,.eql => some (.bool true) | .ptr,.neq => some (.bool false) | _,_ => none
 | .nilp,.ptr .. | .ptr ..,.nilp | .nilp,.ref _ | .ref _,.nilp => match tk,op with | .ptr,.eql => some (.bool false) | .ptr,.neq => some (.bool true) | _,_ => none
 | _,_ => none
def asliceS (x : AV) (lo hi : Option Int) : Option AV:=
 match x with
 | .str s =>
  if 0 ≤ lo.getD 0 ∧ lo.getD 0 ≤ hi.getD s.length ∧ hi.getD s.length ≤ s.length then
   some (.str ((s.drop (lo.getD 0).toNat).take ((hi.getD s.length).toNat - (lo.getD 0).toNat))) else none
 | _ => none
def aslice (sz : Nat) (x : AV) (lo hi : Option Int) : Option AV:=
 match x with
 | .list sz' tag rows =>
  if 0 ≤ lo.getD 0 ∧ lo.getD 0 ≤ hi.getD rows.length ∧ hi.getD rows.length ≤ rows.length ∧ (sz' = sz ∨ rows = []) then
   some (.list sz' (if hi.getD rows.length = rows.length then tag else .dead) ((rows.drop (lo.getD 0).toNat).take ((hi.getD rows.length).toNat - (lo.getD 0).toNat))) else none
 | _ => none
def overlay (cs : List AV) (off : Nat) (vs : List AV) : List AV:=cs.take off ++ vs ++ cs.drop (off + vs.length)
def fillIn (e : Slots) : List (Nat × Nat × Opd) → List AV → Option (List AV)
 | [],cs => some cs
 | (off,sz,x) :: ps,cs => match x.val e with
  | some v => if v.cells.length = sz ∧ off + sz ≤ cs.length ∧ v.okv = true then fillIn e ps (overlay cs off v.cells) else none
  | none => none
def mlook (es : List (Str × AV)) (k : Str) : Option AV:=
 match es with
 | [] => none
 | (k',v) :: es => if k' = k then some v else mlook es k
inductive QOp where
 | mov (x : Opd)
 | pick (c a b : Opd)
 | alloc (j : Nat) (zs : List AV)
 | build (zs : List AV) (parts : List (Nat × Nat × Opd))
 | mkList (sz : Nat) (xs : List Opd)
 | load (k : Option Nat) (a : Opd)
 | nilCheck (x : Opd)
 | bin (tk : TK) (op : BinOp) (x y : Opd)
 | unot (x : Opd)
 | uneg (x : Opd)
 | conv (k : IntKind) (x : Opd)
 | convS (x : Opd)
 | mkIface (t : Nat) (x : Opd)
 | mkFunc (f : Nat) (first captured : List Opd)
 | slice (sz : Nat) (x : Opd) (lo hi : Option Opd)
 | sliceS (x : Opd) (lo hi : Option Opd)
 | fieldAddr (off : Nat) (x : Opd)
 | field (off : Nat) (k : Option Nat) (x : Opd)
 | indexAddr (sz : Nat) (x i : Opd)
 | index (x i : Opd)
 | lookup (zero : AV) (ok : Bool) (m k : Opd)
 | tassert (t : Nat) (zero : AV) (x : Opd)
 | extract (x : Opd) (i : Nat)
 | len (x : Opd)
 | lenS (x : Opd)
 | min2 (x y : Opd)
inductive LOp where
 | store (k : Nat) (a x : Opd)
 | box (x : Opd)
 | mkMap
 | mkSlice (sz : Nat) (by_ : Nat) (zs : List AV) (l c : Opd)
 | mkArr (sz : Nat) (xs : List Opd)
 | mapUpd (m k v : Opd)
 | append (sz by_ : Nat) (a b : Opd)
 | append1 (sz by_ : Nat) (a y i x : Opd) (d j9 j10 : Nat)
 | call (f : Opd) (args : List Opd)
 | panic (x : Opd)
inductive IOp where
 | q (o : QOp)
 | l (o : LOp) (re : List Nat)
structure Item where
 ix : Nat
 dst : Option Nat
 guard : Option (Nat × Bool)
 op : IOp
def optIx (x : Option Opd) (e : Slots) : Option (Option Int):=
 match x with
 | none => some none
 | some x => match x.val e with
  | some v => (asIx v).map some
  | none => none
def rowsOf (sz : Nat) : List AV → Option (List (List AV))
 | [] => some []
 | v :: vs => if v.cells.length = sz ∧ closed1 v = true ∧ v.okv = true then (rowsOf sz vs).map (canonL v.cells :: ·) else none
def flatOf (sz : Nat) : List AV → Option (List AV)
 | [] => some []
 | v :: vs => if v.cells.length = sz ∧ v.okv = true then (flatOf sz vs).map (v.cells ++ ·) else none
def qval (o : QOp) (e : Slots) (H : List Blk) (base : Nat) : Option AV:=
 match o with
 | .mov x => x.val e
 | .pick c a b => match c.val e with
  | some (.bool true) => a.val e
  | some (.bool false) => b.val e
  | _ => none
 | .alloc j zs => match H[base + j]? with
  | some (.cells cs) => if AV.beqL cs zs then some (.ptr (base + j) 0) else none
  | _ => none
 | .build zs parts => (fillIn e parts zs).map .agg
 | .mkList sz xs => match vals xs e with
  | some vs => (rowsOf sz vs).map (.list sz .full)
  | none => none
 | .load k a => match a.val e with
  | some v => aload k v H
  | none => none
 | .nilCheck x => match x.val e with
  | some (.ptr n o) => some (.ptr n o)
  | some (.ref cs) => some (.ref cs)
  | _ => none
 | .bin tk op x y => match x.val e,y.val e with
  | some a,some b => abin tk op a b
  | _,_ => none
 | .unot x => match x.val e with
  | some (.bool b) => some (.bool (!b))
  | _ => none
 | .uneg x => match x.val e with
  | some (.int k n) => some (.int k (k.wrap (0 - n)))
  | _ => none
 | .conv k x => match x.val e with
  | some (.int _ n) => some (.int k (k.wrap n))
  | _ => none
 | .convS x => match x.val e with
  | some (.str s) => some (.str s)
  | _ => none
 | .mkIface t x => (x.val e).map (.iface t)
 | .mkFunc f first cap => match vals first e,vals cap e with
  | some a,some b => some (.func f a b)
  | _,_ => none
 | .slice sz x lo hi => match x.val e,optIx lo e,optIx hi e with
  | some v,some l,some h => aslice sz v l h
  | _,_,_ => none
 | .sliceS x lo hi => match x.val e,optIx lo e,optIx hi e with
  | some v,some l,some h => asliceS v l h
  | _,_,_ => none
 | .fieldAddr off x => match x.val e with
  | some (.ptr n o) => some (.ptr n (o + off))
  | some (.ref cs) => if off ≤ cs.length then some (.ref (cs.drop off)) else none
  | _ => none
 | .field off k x => match x.val e with
  | some (.agg cs) => match k with
   | none => cs[off]?
   | some m => if off + m ≤ cs.length then some (.agg ((cs.drop off).take m)) else none
  | _ => none
 | .indexAddr sz x i => match x.val e,i.val e with
  | some (.list sz' _ rows),some (.int _ n) =>
   if 0 ≤ n ∧ sz' = sz then (rows[n.toNat]?).map .ref else none
  | some (.arr m off sz' len),some (.int _ n) =>
   if 0 ≤ n ∧ n < len ∧ sz' = sz then some (.ptr m (off + n.toNat * sz)) else none
  | _,_ => none
 | .index x i => match x.val e,i.val e with
  | some (.str s),some (.int _ n) => if 0 ≤ n then (s[n.toNat]?).map fun b => .int .u8 b.toNat else none
  | _,_ => none
 | .lookup zero ok m k => match m.val e,k.val e with
  | some (.map n),some (.str s) => match H[n]? with
   | some (.map es) => match mlook es s with
    | some v => some (if ok then .tup [v,.bool true] else v)
    | none => some (if ok then .tup [zero,.bool false] else zero)
   | _ => none
  | some .nilm,some (.str _) => some (if ok then .tup [zero,.bool false] else zero)
  | _,_ => none
 | .tassert t zero x => match x.val e with
  | some (.iface t' v) => some (if t' = t then .tup [v,.bool true] else .tup [zero,.bool false])
  | some .nili => some (.tup [zero,.bool false])
  | _ => none
 | .extract x i => match x.val e with
  | some (.tup vs) => vs[i]?
  | _ => none
 | .lenS x => match x.val e with
  | some (.str s) => some (i64 s.length)
  | _ => none
 | .min2 x y => match x.val e,y.val e with
  | some (.int .i64 a),some (.int .i64 b) => some (.int .i64 (if b < a then b else a))
  | _,_ => none
 | .len x => match x.val e with
  | some (.list _ _ rows) => some (i64 rows.length)
  | some (.arr _ _ _ len) => some (i64 len)
  | _ => none
inductive Res where
 | ret (v : AV)
 | panic (v : AV)
 deriving Inhabited
abbrev CallFn:=Nat → List AV → St → Option (Res × St)
def mput (es : List (Str × AV)) (k : Str) (v : AV) : List (Str × AV):=
 match es with
 | [] => [(k,v)]
 | (k',v') :: es => if k' = k then (k',v) :: es else (k',v') :: mput es k v
def maxRow : Nat:=1073741824
def aappend (sz by_ : Nat) (a b : AV) (S : St) : Option (AV × St):=
 match a,b with
 | .list sz0 tag rows,.list szb _ rowsb =>
  if rowsb = [] then some (.list sz0 tag rows,S) else
  if szb = sz ∧ (rows = [] ∨ sz0 = sz) ∧ (rows.length + rowsb.length) * by_ ≤ maxRow ∧ rows.length + rowsb.length ≤ maxRow ∧ 0 < sz then
   match tag with
   | .full => some (.list sz (.row S.rows.length (rows.length + rowsb.length)) (rows ++ rowsb),{S with rows:=S.rows ++ [rows.length + rowsb.length]})
   | .row r en => if sz0 = sz ∧ S.rows[r]? = some en then
     some (.list sz (.row r (en + rowsb.length)) (rows ++ rowsb),{S with rows:=S.rows.set r (en + rowsb.length)}) else none
   | .dead => none
   | .still => none
  else none
 | _,_ => none
def lval (b0 : Nat) (cl : CallFn) (o : LOp) (e : Slots) (S : St) : Option (Res × St):=
 match o with
 | .store k a x => match a.val e,x.val e with
  | some (.ptr n off),some v => match S.heap[n]? with
   | some (.cells cs) =>
    if v.cells.length = k ∧ v.okv = true ∧ off + k ≤ cs.length ∧ (b0 ≤ n ∨ below (n + 1) v = true) then
     some (.ret .undef,{S with heap:=S.heap.set n (.cells (overlay cs off v.cells))}) else none
   | _ => none
  | _,_ => none
 | .box x => match x.val e with
  | some v => if v.okv = true then some (.ret (.ptr S.heap.length 0),{S with heap:=S.heap ++ [.cells v.cells]}) else none
  | none => none
 | .mkMap => some (.ret (.map S.heap.length),{S with heap:=S.heap ++ [.map []]})
 | .mkSlice sz by_ zs l c => match l.val e,c.val e with
  | some (.int .i64 n),some (.int .i64 m) =>
   if n = m ∧ 0 ≤ n ∧ n.toNat * by_ ≤ maxRow ∧ n.toNat ≤ maxRow ∧ zs.length = sz then
    some (.ret (.arr S.heap.length 0 sz n.toNat),{S with heap:=S.heap ++ [.cells (List.replicate n.toNat zs).flatten]}) else none
  | _,_ => none
 | .mkArr sz xs => match vals xs e with
  | some vs => match flatOf sz vs with
   | some cs => some (.ret (.arr S.heap.length 0 sz vs.length),{S with heap:=S.heap ++ [.cells cs]})
   | none => none
  | none => none
 | .mapUpd m k x => match m.val e,k.val e,x.val e with
  | some (.map n),some (.str s),some v => match S.heap[n]? with
   | some (.map es) => if b0 ≤ n ∨ below (n + 1) v = true then some (.ret .undef,{S with heap:=S.heap.set n (.map (mput es s v))}) else none
   | _ => none
  | _,_,_ => none
 | .append sz by_ a b => match a.val e,b.val e with
  | some x,some y => match aappend sz by_ x y S with
   | some (v,S') => some (.ret v,S')
   | none => none
  | _,_ => none
 | .append1 sz by_ a y i x d _ _ => match a.val e,y.val e,i.val e,x.val e with
  | some (.list s0 tag rows),some (.list szb _ rowsb),some (.int .i64 n),some v =>
   if n = rows.length ∧ szb = sz ∧ rowsb.length = 1 ∧ v.cells.length = sz ∧ closed1 v = true ∧ v.okv = true ∧ e d = none then
    match aappend sz by_ (.list s0 tag rows) (.list sz .full [canonL v.cells]) S with
    | some (v',S') => some (.ret v',S')
    | none => none
   else none
  | _,_,_,_ => none
 | .call f args => match f.val e,vals args e with
  | some (.func g first cap),some vs => cl g (first ++ vs ++ cap) S
  | _,_ => none
 | .panic x => match x.val e with
  | some (.iface t v) => some (.panic (.iface t v),S)
  | _ => none
def wanted (g : Option (Nat × Bool)) (e : Slots) : Option Bool:=
 match g with
 | none => some true
 | some (s,want) => match e s with
  | some (.bool b) => some (b == want)
  | some .undef => some false
  | _ => none
def eput (e : Env) (d : Option Nat) (v : AV) : Env:=
 match d with
 | some d => (d,v) :: e
 | none => e
def recheck (prev : List Item) (re : List Nat) (e : Env) (H : List Blk) (base : Nat) : Bool:=
 prev.all fun it => !re.contains it.ix || match it.op,it.dst with
  | .q o,some d => match wanted it.guard (eget e) with
   | some true => match qval o (eget e) H base,eget e d with
    | some a,some b => AV.beq a b
    | _,_ => false
   | some false => true
   | none => false
  | _,_ => false
def step (b0 : Nat) (cl : CallFn) (base : Nat) (it : Item) (e : Env) (S : St) : Option (Option AV × Env × St):=
 match wanted it.guard (eget e) with
 | none => none
 | some false => some (none,eput e it.dst .undef,S)
 | some true => match it.op with
  | .q o => match qval o (eget e) S.heap base with
   | some v => some (none,eput e it.dst v,S)
   | none => none
  | .l o _ => match lval b0 cl o (eget e) S with
   | some (.ret v,S') => some (none,eput e it.dst v,S')
   | some (.panic v,S') => some (some v,e,S')
   | none => none
def reOf : IOp → List Nat
 | .q _ => []
 | .l _ re => re
def run (b0 : Nat) (cl : CallFn) (base : Nat) : List Item → List Item → Env → St → Option (Option AV × Env × St)
 | _,[],e,S => some (none,e,S)
 | prev,it :: rest,e,S => match step b0 cl base it e S with
  | none => none
  | some (some v,e',S') => some (some v,e',S')
  | some (none,e',S') =>
   if recheck prev (reOf it.op) e' S'.heap base then run b0 cl base (it :: prev) rest e' S' else none
def keep (l : List Nat) (e : Env) : Env:=l.filterMap fun t => (eget e t).map fun v => (t,v)
inductive IC where
 | skip
 | region (allocs : List (List AV)) (items : List Item) (kp : List Nat)
 | seq (a b : IC)
 | cond (c : Opd) (a b : IC)
 | block (id : Nat) (b : IC)
 | loop (kp : List Nat) (b : IC)
 | exit (id : Nat)
 | ret
 | stuck
inductive Ex where
 | normal | exit (id : Nat) | ret | panic (v : AV)
 deriving Inhabited
def iter (body : Env → St → Option (Ex × Env × St)) (kp : List Nat) : Nat → Env → St → Option (Ex × Env × St)
 | 0,_,_ => none
 | n + 1,e,S => match body (keep kp e) S with
  | some (.normal,e',S') => iter body kp n e' S'
  | r => r
def exec (b0 : Nat) (cl : CallFn) (n : Nat) : IC → Env → St → Option (Ex × Env × St)
 | .skip,e,S => some (.normal,e,S)
 | .region allocs items kp,e,S =>
  match run b0 cl S.heap.length [] items e {S with heap:=S.heap ++ allocs.map .cells} with
  | some (none,e',S') => some (.normal,keep kp e',S')
  | some (some v,e',S') => some (.panic v,e',S')
  | none => none
 | .seq a b,e,S => match exec b0 cl n a e S with
  | some (.normal,e',S') => exec b0 cl n b e' S'
  | r => r
 | .cond c a b,e,S => match c.val (eget e) with
  | some (.bool true) => exec b0 cl n a e S
  | some (.bool false) => exec b0 cl n b e S
  | _ => none
 | .block id b,e,S => match exec b0 cl n b e S with
  | some (.exit id',e',S') => if id' = id then some (.normal,e',S') else some (.exit id',e',S')
  | r => r
 | .loop kp b,e,S => iter (exec b0 cl n b) kp n e S
 | .exit id,e,S => some (.exit id,e,S)
 | .ret,e,S => some (.ret,e,S)
 | .stuck,_,_ => none
inductive RVar where
 | tmp (t : Nat)
 | cell (t : Nat) (k : Option Nat)
structure IFn where
 nargs : Nat
 body : IC
 res : List RVar
def rvals : List RVar → Env → List Blk → Option (List AV)
 | [],_,_ => some []
 | .tmp t :: rs,e,H => match eget e t,rvals rs e H with
  | some v,some vs => some (v :: vs)
  | _,_ => none
 | .cell t k :: rs,e,H => match eget e t,rvals rs e H with
  | some (.ptr n off),some vs => match aload k (.ptr n off) H with
   | some v => some (v :: vs)
   | none => none
  | _,_ => none
def packed : List AV → AV
 | [v] => v
 | vs => .tup vs
def leave (n0 : Nat) (v : AV) (S : St) : AV × St:=
 if below n0 v then (v,{S with heap:=S.heap.take n0}) else
 if below n0 (freeze n0 S.heap v) then (freeze n0 S.heap v,{S with heap:=S.heap.take n0}) else (v,S)
def args0 (vs : List AV) : Env:=vs.zipIdx.map fun (v,i) => (i,v)
def enter (cl : CallFn) (n : Nat) (fn : IFn) (vs : List AV) (S : St) : Option (Res × St):=
 if vs.length = fn.nargs then
  match exec S.heap.length cl n fn.body (args0 vs) S with
  | some (.normal,e,S') | some (.ret,e,S') => match rvals fn.res e S'.heap with
   | some rs => some (.ret (leave S.heap.length (packed rs) S').1,(leave S.heap.length (packed rs) S').2)
   | none => none
  | some (.panic v,_,S') => if below S.heap.length v then some (.panic v,{S' with heap:=S'.heap.take S.heap.length}) else none
  | _ => none
 else none
abbrev Prims:=Nat → Option (CallFn → List AV → St → Option (Res × St))
def callN (prims : Prims) (F : Nat → Option IFn) : Nat → CallFn
 | 0 => fun _ _ _ => none
 | n + 1 => fun f vs S => match prims f with
  | some p => p (callN prims F n) vs S
  | none => match F f with
   | some fn => enter (callN prims F n) n fn vs S
   | none => none
end Go.Proofs.YtmeakjgbjldkdaaGreat.Ai
namespace Go.Proofs.YtmeakjgbjldkdaaGreat.Ai
open Go
structure Ghost where
 m : Nat → Option Nat
 g : Nat → Option (List Value)
 a : Nat → Option (Nat × Nat × Nat × Nat)
def Ghost.fix (K : Ghost) (B o : Nat) (vs : List Value) : Prop:=∃ l,K.g B = some l ∧ (l.drop o).take vs.length = vs
def Ghost.szOk (K : Ghost) (sz B : Nat) : Prop:=∀ x,K.a B = some x → x.2.2.1 = sz
def Ghost.tagIn (K : Ghost) (sz : Nat) (tag : Tag) (len cap B o : Nat) : Prop:=
 match tag with
 | .full => cap = len
 | .row b e => (∃ x,K.a B = some x ∧ x.1 = b) ∧ (len < cap → ∃ E size l,K.a B = some (b,E,sz,size) ∧ K.g B = some l ∧ e ≤ E ∧ l.length = o + len * sz + (E - e) * sz ∧ o + cap * sz ≤ size)
 | .dead => True
 | .still => K.a B = none
def Ghost.tagOk (K : Ghost) (sz : Nat) (tag : Tag) (len cap B o : Nat) : Prop:=K.szOk sz B ∧ K.tagIn sz tag len cap B o
mutual
def Rep (K : Ghost) : AV → Value → Prop
 | .bool b,v => v = .bool b
 | .int k n,v => v = .int k n
 | .str s,v => v = .string ⟨s.toArray⟩
 | .nilp,v => v = .pointer none
 | .ptr n off,v => ∃ B,K.m n = some B ∧ v = .pointer (some ⟨B,off,none⟩)
 | .ref cs,v => ∃ B o vs,v = .pointer (some ⟨B,o,none⟩) ∧ K.fix B o vs ∧ RepL K cs vs
 | .list sz tag rows,v => ∃ base cap,v = .slice base rows.length cap ∧ rows.length ≤ cap ∧ (∀ r ∈ rows,r.length = sz ∧ closedL r = true) ∧
   ((base = none ∧ rows = [] ∧ cap = 0) ∨ ∃ B o vs,base = some ⟨B,o,none⟩ ∧ K.fix B o vs ∧ RepLL K rows vs ∧ K.tagOk sz tag rows.length cap B o)
 | .arr n off _sz len,v => ∃ B cap,K.m n = some B ∧ len ≤ cap ∧ v = .slice (some ⟨B,off,none⟩) len cap
 | .nilm,v => v = .map none
 | .map n,v => ∃ B,K.m n = some B ∧ v = .map (some B)
 | .nilf,v => v = .nilFunc
 | .func f first cap,v => ∃ us vs,v = .func (.func f) us.toArray vs.toArray ∧ RepT K first us ∧ RepT K cap vs
 | .nili,v => v = .nilIface
 | .iface t x,v => ∃ u,v = .iface t u ∧ Rep K x u
 | .agg cs,v => ∃ vs,v = .agg vs.toArray ∧ RepL K cs vs
 | .tup cs,v => ∃ vs,v = .tuple vs.toArray ∧ RepT K cs vs
 | .undef,v => v = .tuple #[]
def RepL (K : Ghost) : List AV → List Value → Prop
 | [],vs => vs = []
 | a :: as,vs => ∃ v vs',vs = v :: vs' ∧ a.one = true ∧ Rep K a v ∧ RepL K as vs'
def RepT (K : Ghost) : List AV → List Value → Prop
 | [],vs => vs = []
 | a :: as,vs => ∃ v vs',vs = v :: vs' ∧ Rep K a v ∧ RepT K as vs'
def RepLL (K : Ghost) : List (List AV) → List Value → Prop
 | [],vs => vs = []
 | r :: rs,vs => ∃ u us,vs = u ++ us ∧ RepL K r u ∧ RepLL K rs us
end
structure Ext (K K' : Ghost) : Prop where
 m : ∀ n B,K.m n = some B → K'.m n = some B
 g : ∀ B l,K.g B = some l → ∃ x,K'.g B = some (l ++ x)
 a : ∀ B b E sz size,K.a B = some (b,E,sz,size) → ∃ E',K'.a B = some (b,E',sz,size) ∧ E ≤ E' ∧
  ∀ l l',K.g B = some l → K'.g B = some l' → l'.length = l.length + (E' - E) * sz
 n : ∀ B l,K.g B = some l → K.a B = none → K'.a B = none
theorem Ext.refl (K : Ghost) : Ext K K:=
 ⟨fun _ _ h => h,fun _ l h => ⟨[],by simpa using h⟩,fun _ _ E _ _ h => ⟨E,h,Nat.le_refl _,fun l l' h1 h2 => by rw [h1] at h2; cases h2; simp⟩,fun _ _ _ h => h⟩
theorem Ext.trans {K K' K'' : Ghost} (h : Ext K K') (h' : Ext K' K'') : Ext K K'':=by
 refine ⟨fun n B hm => h'.m n B (h.m n B hm),fun B l hg => ?_,fun B b E sz size ha => ?_,fun B l hg ha => (h.g B l hg).elim fun x hx => h'.n B _ hx (h.n B l hg ha)⟩
 ·obtain ⟨x,hx⟩:=h.g B l hg
  obtain ⟨y,hy⟩:=h'.g B _ hx
  exact ⟨x ++ y,by rw [hy,List.append_assoc]⟩
 ·obtain ⟨E1,ha1,hle1,hl1⟩:=h.a B b E sz size ha
  obtain ⟨E2,ha2,hle2,hl2⟩:=h'.a B b E1 sz size ha1
  refine ⟨E2,ha2,Nat.le_trans hle1 hle2,fun l l' hg hg' => ?_⟩
  obtain ⟨x,hx⟩:=h.g B l hg
  have e1:=hl1 l _ hg hx
  have e2:=hl2 _ l' hx hg'
  have : (E2 - E) * sz = (E1 - E) * sz + (E2 - E1) * sz:=by rw [← Nat.add_mul]; congr 1; omega
  omega
theorem Ext.fix {K K' : Ghost} (h : Ext K K') {B o : Nat} {vs : List Value} (hf : K.fix B o vs) : K'.fix B o vs:=by
 obtain ⟨l,hg,hl⟩:=hf
 obtain ⟨x,hx⟩:=h.g B l hg
 refine ⟨l ++ x,hx,?_⟩
 by_cases h0 : vs = []
 ·subst h0; simp
 have hlen : vs.length ≤ l.length - o:=by
  have:=congrArg List.length hl
  simp at this
  omega
 have hpos : 0 < vs.length:=List.length_pos_iff.2 h0
 rw [List.drop_append_of_le_length (by omega),List.take_append_of_le_length (by simp; omega)]
 exact hl
theorem Ext.szOk {K K' : Ghost} (h : Ext K K') {sz B o : Nat} {vs : List Value} (hf : K.fix B o vs) (hs : K.szOk sz B) : K'.szOk sz B:=by
 intro x hx
 obtain ⟨l,hg,-⟩:=hf
 cases ha : K.a B with
 | none =>
  rw [h.n B l hg ha] at hx
  cases hx
 | some y =>
  obtain ⟨b,E,sz1,size⟩:=y
  obtain ⟨E',ha',-⟩:=h.a B b E sz1 size ha
  rw [ha'] at hx
  cases hx
  exact hs (b,E,sz1,size) ha
theorem Ext.tagOk {K K' : Ghost} (h : Ext K K') {sz : Nat} {tag : Tag} {len cap B o : Nat} {o' : Nat} {vs : List Value} (hf : K.fix B o' vs) (ht : K.tagOk sz tag len cap B o) : K'.tagOk sz tag len cap B o:=by
 obtain ⟨hs,ht⟩:=ht
 refine ⟨h.szOk hf hs,?_⟩
 cases tag with
 | full => exact ht
 | dead => trivial
 | still =>
  obtain ⟨l,hl,-⟩:=hf
  exact h.n B l hl ht
 | row b e =>
  refine ⟨?_,fun hlt => ?_⟩
  ·obtain ⟨⟨b1,E,sz1,size⟩,ha,hb⟩:=ht.1
   obtain ⟨E',ha',_⟩:=h.a B b1 E sz1 size ha
   exact ⟨_,ha',hb⟩
  obtain ⟨E,size,l,ha,hg,hle,hl,hs⟩:=ht.2 hlt
  obtain ⟨E',ha',hle',hl'⟩:=h.a B b E sz size ha
  obtain ⟨x,hx⟩:=h.g B l hg
  refine ⟨E',size,l ++ x,ha',hx,Nat.le_trans hle hle',?_,hs⟩
  have e1:=hl' l _ hg hx
  have : (E' - e) * sz = (E - e) * sz + (E' - E) * sz:=by rw [← Nat.add_mul]; congr 1; omega
  omega
mutual
theorem Rep.ext {K K' : Ghost} (h : Ext K K') : ∀ (a : AV) (v : Value),Rep K a v → Rep K' a v
 | .bool _,_,r => by simpa only [Rep] using r
 | .int _ _,_,r => by simpa only [Rep] using r
 | .str _,_,r => by simpa only [Rep] using r
 | .nilp,_,r => by simpa only [Rep] using r
 | .nilm,_,r => by simpa only [Rep] using r
 | .nilf,_,r => by simpa only [Rep] using r
 | .nili,_,r => by simpa only [Rep] using r
 | .undef,_,r => by simpa only [Rep] using r
 | .ptr n off,v,r => by
  simp only [Rep] at r ⊢
  obtain ⟨B,hm,hv⟩:=r
  exact ⟨B,h.m _ _ hm,hv⟩
 | .map n,v,r => by
  simp only [Rep] at r ⊢
  obtain ⟨B,hm,hv⟩:=r
  exact ⟨B,h.m _ _ hm,hv⟩
 | .arr n off sz len,v,r => by
  simp only [Rep] at r ⊢
  obtain ⟨B,cap,hm,hlc,hv⟩:=r
  exact ⟨B,cap,h.m _ _ hm,hlc,hv⟩
 | .ref cs,v,r => by
  simp only [Rep] at r ⊢
  obtain ⟨B,o,vs,hv,hf,hr⟩:=r
  exact ⟨B,o,vs,hv,h.fix hf,RepL.ext h cs vs hr⟩
 | .list sz tag rows,v,r => by
  simp only [Rep] at r ⊢
  obtain ⟨base,cap,hv,hc,hs,hr⟩:=r
  refine ⟨base,cap,hv,hc,hs,hr.imp id ?_⟩
  rintro ⟨B,o,vs,hb,hf,hr,ht⟩
  exact ⟨B,o,vs,hb,h.fix hf,RepLL.ext h rows vs hr,h.tagOk hf ht⟩
 | .func f a b,v,r => by
  simp only [Rep] at r ⊢
  obtain ⟨us,vs,hv,h1,h2⟩:=r
  exact ⟨us,vs,hv,RepT.ext h a us h1,RepT.ext h b vs h2⟩
 | .iface t x,v,r => by
  simp only [Rep] at r ⊢
  obtain ⟨u,hv,h1⟩:=r
  exact ⟨u,hv,Rep.ext h x u h1⟩
 | .agg cs,v,r => by
  simp only [Rep] at r ⊢
  obtain ⟨vs,hv,h1⟩:=r
  exact ⟨vs,hv,RepL.ext h cs vs h1⟩
 | .tup cs,v,r => by
  simp only [Rep] at r ⊢
  obtain ⟨vs,hv,h1⟩:=r
  exact ⟨vs,hv,RepT.ext h cs vs h1⟩
theorem RepL.ext {K K' : Ghost} (h : Ext K K') : ∀ (a : List AV) (v : List Value),RepL K a v → RepL K' a v
 | [],_,r => by simpa only [RepL] using r
 | a :: as,v,r => by
  simp only [RepL] at r ⊢
  obtain ⟨u,us,hv,h1,h2,h3⟩:=r
  exact ⟨u,us,hv,h1,Rep.ext h a u h2,RepL.ext h as us h3⟩
theorem RepT.ext {K K' : Ghost} (h : Ext K K') : ∀ (a : List AV) (v : List Value),RepT K a v → RepT K' a v
 | [],_,r => by simpa only [RepT] using r
 | a :: as,v,r => by
  simp only [RepT] at r ⊢
  obtain ⟨u,us,hv,h2,h3⟩:=r
  exact ⟨u,us,hv,Rep.ext h a u h2,RepT.ext h as us h3⟩
theorem RepLL.ext {K K' : Ghost} (h : Ext K K') : ∀ (a : List (List AV)) (v : List Value),RepLL K a v → RepLL K' a v
 | [],_,r => by simpa only [RepLL] using r
 | a :: as,v,r => by
  simp only [RepLL] at r ⊢
  obtain ⟨u,us,hv,h2,h3⟩:=r
  exact ⟨u,us,hv,RepL.ext h a u h2,RepLL.ext h as us h3⟩
end
theorem RepL.length {K : Ghost} : ∀ {a : List AV} {v : List Value},RepL K a v → v.length = a.length
 | [],_,r => by simp only [RepL] at r; simp [r]
 | a :: as,v,r => by
  simp only [RepL] at r
  obtain ⟨u,us,rfl,_,_,h⟩:=r
  simp [RepL.length h]
theorem RepT.length {K : Ghost} : ∀ {a : List AV} {v : List Value},RepT K a v → v.length = a.length
 | [],_,r => by simp only [RepT] at r; simp [r]
 | a :: as,v,r => by
  simp only [RepT] at r
  obtain ⟨u,us,rfl,_,h⟩:=r
  simp [RepT.length h]
theorem RepL.one {K : Ghost} : ∀ {a : List AV} {v : List Value},RepL K a v → ∀ x ∈ a,x.one = true
 | [],_,_,x,hx => by cases hx
 | a :: as,v,r,x,hx => by
  simp only [RepL] at r
  obtain ⟨u,us,rfl,h1,_,h⟩:=r
  rcases List.mem_cons.1 hx with rfl | hx
  ·exact h1
  ·exact RepL.one h x hx
theorem RepL.append {K : Ghost} : ∀ {a b : List AV} {v u : List Value},RepL K a v → RepL K b u → RepL K (a ++ b) (v ++ u)
 | [],_,_,_,r,h => by simp only [RepL] at r; subst r; exact h
 | a :: as,b,v,u,r,h => by
  simp only [RepL] at r
  obtain ⟨x,xs,rfl,h1,h2,h3⟩:=r
  simp only [List.cons_append,RepL]
  exact ⟨x,_,rfl,h1,h2,RepL.append h3 h⟩
theorem RepL.drop {K : Ghost} : ∀ (n : Nat) {a : List AV} {v : List Value},RepL K a v → RepL K (a.drop n) (v.drop n)
 | 0,_,_,r => by simpa using r
 | n + 1,[],_,r => by simp only [RepL] at r; subst r; simp [RepL]
 | n + 1,a :: as,v,r => by
  simp only [RepL] at r
  obtain ⟨x,xs,rfl,h1,h2,h3⟩:=r
  simpa using RepL.drop n h3
theorem RepL.take {K : Ghost} : ∀ (n : Nat) {a : List AV} {v : List Value},RepL K a v → RepL K (a.take n) (v.take n)
 | 0,_,_,r => by simp [RepL]
 | n + 1,[],_,r => by simp only [RepL] at r; subst r; simp [RepL]
 | n + 1,a :: as,v,r => by
  simp only [RepL] at r
  obtain ⟨x,xs,rfl,h1,h2,h3⟩:=r
  simp only [List.take_succ_cons,RepL]
  exact ⟨x,_,rfl,h1,h2,RepL.take n h3⟩
theorem RepL.get {K : Ghost} : ∀ {a : List AV} {v : List Value},RepL K a v → ∀ (i : Nat) (x : AV),a[i]? = some x → ∃ u,v[i]? = some u ∧ x.one = true ∧ Rep K x u
 | [],_,_,i,x,hx => by simp at hx
 | a :: as,v,r,i,x,hx => by
  simp only [RepL] at r
  obtain ⟨u,us,rfl,h1,h2,h3⟩:=r
  cases i with
  | zero => simp at hx; subst hx; exact ⟨u,by simp,h1,h2⟩
  | succ i => simpa using RepL.get h3 i x (by simpa using hx)
theorem RepT.get {K : Ghost} : ∀ {a : List AV} {v : List Value},RepT K a v → ∀ (i : Nat) (x : AV),a[i]? = some x → ∃ u,v[i]? = some u ∧ Rep K x u
 | [],_,_,i,x,hx => by simp at hx
 | a :: as,v,r,i,x,hx => by
  simp only [RepT] at r
  obtain ⟨u,us,rfl,h2,h3⟩:=r
  cases i with
  | zero => simp at hx; subst hx; exact ⟨u,by simp,h2⟩
  | succ i => simpa using RepT.get h3 i x (by simpa using hx)
theorem RepT.append {K : Ghost} : ∀ {a b : List AV} {v u : List Value},RepT K a v → RepT K b u → RepT K (a ++ b) (v ++ u)
 | [],_,_,_,r,h => by simp only [RepT] at r; subst r; exact h
 | a :: as,b,v,u,r,h => by
  simp only [RepT] at r
  obtain ⟨x,xs,rfl,h2,h3⟩:=r
  simp only [List.cons_append,RepT]
  exact ⟨x,_,rfl,h2,RepT.append h3 h⟩
theorem RepLL.flat {K : Ghost} : ∀ {a : List (List AV)} {v : List Value},RepLL K a v ↔ RepL K a.flatten v
 | [],v => by simp [RepLL,RepL]
 | a :: as,v => by
  simp only [RepLL,List.flatten_cons]
  constructor
  ·rintro ⟨u,us,rfl,h1,h2⟩
   exact h1.append (RepLL.flat.1 h2)
  ·intro h
   refine ⟨v.take a.length,v.drop a.length,by simp,?_,RepLL.flat.2 ?_⟩
   ·simpa using h.take a.length
   ·simpa using h.drop a.length
theorem Rep.oneCell {K : Ghost} {a : AV} {v : Value} (h1 : a.one = true) (r : Rep K a v) : v.oneCell' = true:=by
 cases a <;> simp [AV.one] at h1 <;> simp only [Rep] at r
 all_goals first
  | (subst r; rfl)
  | (obtain ⟨_,_,rfl⟩:=r; rfl)
  | (obtain ⟨_,_,_,rfl⟩:=r; rfl)
  | (obtain ⟨_,_,_,_,rfl⟩:=r; rfl)
  | (obtain ⟨_,_,_,rfl,_⟩:=r; rfl)
  | (obtain ⟨_,_,rfl,_⟩:=r; rfl)
  | (obtain ⟨_,rfl,_⟩:=r; rfl)
theorem RepL.oneCell {K : Ghost} : ∀ {a : List AV} {v : List Value},RepL K a v → ∀ u ∈ v,u.oneCell' = true
 | [],_,r,u,hu => by simp only [RepL] at r; subst r; cases hu
 | a :: as,v,r,u,hu => by
  simp only [RepL] at r
  obtain ⟨x,xs,rfl,h1,h2,h3⟩:=r
  rcases List.mem_cons.1 hu with rfl | hu
  ·exact h2.oneCell h1
  ·exact RepL.oneCell h3 u hu
theorem Rep.cells {K : Ghost} {a : AV} {v : Value} (ho : a.okv = true) (r : Rep K a v) : RepL K a.cells v.cells.toList:=by
 cases a with
 | agg cs =>
  simp only [Rep] at r
  obtain ⟨vs,rfl,h⟩:=r
  simpa [AV.cells,Value.cells] using h
 | tup _ => simp [AV.okv] at ho
 | undef => simp [AV.okv] at ho
 | _ =>
  have h1:=Rep.oneCell (a:=_) (by rfl) r
  simp only [AV.cells,RepL]
  refine ⟨v,[],?_,rfl,r,rfl⟩
  cases v <;> simp [Value.oneCell',Value.cells] at h1 ⊢
end Go.Proofs.YtmeakjgbjldkdaaGreat.Ai
namespace Go.Proofs.YtmeakjgbjldkdaaGreat.Ai
open Go
def RepM (K : Ghost) : List (Str × AV) → List MapEntry → Prop
 | [],ms => ms = []
 | (k,a) :: es,ms => ∃ m ms',ms = m :: ms' ∧ m.key = .string ⟨k.toArray⟩ ∧ Rep K a m.val ∧ RepM K es ms'
structure Rel (K : Ghost) (S : St) (w : World) : Prop where
 dom : ∀ n B,K.m n = some B → n < S.heap.length
 inj : ∀ n n' B,K.m n = some B → K.m n' = some B → n = n'
 sep : ∀ n B,K.m n = some B → K.g B = none
 cells : ∀ n B cs,K.m n = some B → S.heap[n]? = some (.cells cs) → ∃ vs t,w.heap[B]? = some (.cells vs t (0,0)) ∧ RepL K cs vs.toList
 maps : ∀ n B es,K.m n = some B → S.heap[n]? = some (.map es) → ∃ ms ck,w.heap[B]? = some (.map ms ck) ∧ RepM K es ms.toList
 rows : ∀ B l,K.g B = some l → ∃ vs t,w.heap[B]? = some (.cells vs t (0,0)) ∧ vs.toList.take l.length = l
 grow : ∀ B b E sz size,K.a B = some (b,E,sz,size) → ∃ l,K.g B = some l ∧ (∃ vs t,w.heap[B]? = some (.cells vs t (0,0)) ∧ vs.size = size) ∧ ∃ r,S.rows[b]? = some r ∧ E ≤ r
structure Step (K : Ghost) (X : Nat → Prop) (w : World) (K' : Ghost) (w' : World) : Prop where
 ext : Ext K K'
 os : w'.os = w.os
 tape : w'.tape = w.tape
 output : w'.output = w.output
 size : w.heap.size ≤ w'.heap.size
 frame : ∀ B,B < w.heap.size → (∀ n,K.m n ≠ some B) → K.g B = none → w'.heap[B]? = w.heap[B]?
 fresh : ∀ B,B < w.heap.size → (∀ n,K.m n ≠ some B) → K.g B = none → (∀ n,K'.m n ≠ some B) ∧ K'.g B = none
 back : ∀ n,X n → K.m n = none → K'.m n = none
 born : ∀ B x,K'.a B = some x → (∃ y,K.a B = some y) ∨ w.heap.size ≤ B
theorem Step.refl (K : Ghost) (X : Nat → Prop) (w : World) : Step K X w K w:=
 ⟨Ext.refl K,rfl,rfl,rfl,Nat.le_refl _,fun _ _ _ _ => rfl,fun _ _ h1 h2 => ⟨h1,h2⟩,fun _ _ h => h,fun _ x h => .inl ⟨x,h⟩⟩
theorem Step.trans {K K' K'' : Ghost} {X Y : Nat → Prop} {w w' w'' : World} (h : Step K X w K' w') (h' : Step K' Y w' K'' w'') (hXY : ∀ n,X n → Y n) : Step K X w K'' w'':=by
 refine ⟨h.ext.trans h'.ext,h'.os.trans h.os,h'.tape.trans h.tape,h'.output.trans h.output,Nat.le_trans h.size h'.size,?_,?_,?_,?_⟩
 ·intro B hB h1 h2
  obtain ⟨h3,h4⟩:=h.fresh B hB h1 h2
  rw [h'.frame B (Nat.lt_of_lt_of_le hB h.size) h3 h4,h.frame B hB h1 h2]
 ·intro B hB h1 h2
  obtain ⟨h3,h4⟩:=h.fresh B hB h1 h2
  exact h'.fresh B (Nat.lt_of_lt_of_le hB h.size) h3 h4
 ·exact fun n hn h1 => h'.back n (hXY n hn) (h.back n hn h1)
 ·intro B x hx
  rcases h'.born B x hx with ⟨y,hy⟩ | hb
  ·exact h.born B y hy
  ·exact .inr (Nat.le_trans h.size hb)
theorem Step.mono {K K' : Ghost} {X Y : Nat → Prop} {w w' : World} (h : Step K X w K' w') (hXY : ∀ n,Y n → X n) : Step K Y w K' w':=
 ⟨h.ext,h.os,h.tape,h.output,h.size,h.frame,h.fresh,fun n hn => h.back n (hXY n hn),h.born⟩
def EnvRep (K : Ghost) (e : Slots) (tmps : Array Value) : Prop:=∀ t v,e t = some v → t < tmps.size ∧ Rep K v (tmps.getD t Go.undef)
theorem EnvRep.ext {K K' : Ghost} {e : Slots} {tmps : Array Value} (h : EnvRep K e tmps) (hx : Ext K K') : EnvRep K' e tmps:=
 fun t v hv => ⟨(h t v hv).1,Rep.ext hx _ _ (h t v hv).2⟩
theorem EnvRep.put {K : Ghost} {e : Env} {a : Act} {v : AV} {u : Value} (h : EnvRep K (eget e) a.tmps) (hr : Rep K v u) (d : Option Nat) (hd : ∀ t,d = some t → t < a.tmps.size) :
  EnvRep K (eget (eput e d v)) (a.put d u).tmps:=by
 cases d with
 | none => exact h
 | some d =>
  intro t x hx
  have hdl:=hd d rfl
  simp only [eput,eget] at hx
  by_cases hdt : d = t
  ·subst hdt
   simp at hx
   subst hx
   simp [Act.put,hdl]
   exact hr
  ·rw [if_neg hdt] at hx
   have:=h t x hx
   simp only [Act.put,Array.size_setIfInBounds]
   refine ⟨this.1,?_⟩
   have e1 : (a.tmps.setIfInBounds d u).getD t Go.undef = a.tmps.getD t Go.undef:=by
    simp [Array.getElem?_setIfInBounds_ne hdt]
   rw [e1]
   exact this.2
def belowB (k : Nat) : Blk → Bool
 | .cells cs => belowL k cs
 | .map es => es.all fun x => below k x.2
def Inner (k : Nat) (S : St) : Prop:=∀ n b,n < k → S.heap[n]? = some b → belowB k b = true
mutual
def repB : AV → Value → Bool
 | .bool a,.bool b => a == b
 | .int k a,.int l b => k == l && a == b
 | .str s,.string b => b.data.toList == s
 | .nilp,.pointer none => true
 | .list 0 .full [],.slice none 0 0 => true
 | .nilm,.map none => true
 | .nilf,.nilFunc => true
 | .func f [] [],.func (.func g) a b => f == g && a.size == 0 && b.size == 0
 | .nili,.nilIface => true
 | .agg cs,.agg vs => repBL cs vs.toList
 | .undef,.tuple vs => vs.size == 0
 | _,_ => false
def repBL : List AV → List Value → Bool
 | [],[] => true
 | a :: as,v :: vs => a.one && repB a v && repBL as vs
 | _,_ => false
end
mutual
theorem repB_spec (K : Ghost) : ∀ (a : AV) (v : Value),repB a v = true → Rep K a v
 | .bool a,v,h => by cases v <;> simp [repB] at h; simp [Rep,h]
 | .int k a,v,h => by cases v <;> simp [repB] at h; simp [Rep,h]
 | .str s,v,h => by
  cases v <;> simp [repB] at h
  rename_i b
  simp only [Rep]
  subst h
  rfl
 | .nilp,v,h => by
  unfold repB at h
  split at h <;> simp_all [Rep]
 | .nilm,v,h => by
  unfold repB at h
  split at h <;> simp_all [Rep]
 | .nilf,v,h => by cases v <;> simp [repB] at h; simp [Rep]
 | .nili,v,h => by cases v <;> simp [repB] at h; simp [Rep]
 | .undef,v,h => by
  cases v <;> simp [repB] at h
  simp [Rep,h]
 | .list sz tag rows,v,h => by
  unfold repB at h
  split at h <;> simp_all [Rep]
  exact ⟨none,0,⟨rfl,rfl⟩,.inl ⟨rfl,rfl⟩⟩
 | .func f a b,v,h => by
  unfold repB at h
  split at h <;> simp_all [Rep,RepT]
 | .agg cs,v,h => by
  cases v with
  | agg vs =>
   simp only [repB] at h
   simp only [Rep]
   exact ⟨vs.toList,by simp,repBL_spec K cs _ h⟩
  | _ => simp [repB] at h
 | .ptr _ _,v,h => by cases v <;> simp [repB] at h
 | .ref _,v,h => by cases v <;> simp [repB] at h
 | .arr _ _ _ _,v,h => by cases v <;> simp [repB] at h
 | .map _,v,h => by cases v <;> simp [repB] at h
 | .iface _ _,v,h => by cases v <;> simp [repB] at h
 | .tup _,v,h => by cases v <;> simp [repB] at h
theorem repBL_spec (K : Ghost) : ∀ (a : List AV) (v : List Value),repBL a v = true → RepL K a v
 | [],[],_ => by simp [RepL]
 | a :: as,v :: vs,h => by
  simp only [repBL,Bool.and_eq_true] at h
  simp only [RepL]
  exact ⟨v,vs,rfl,h.1.1,repB_spec K a v h.1.2,repBL_spec K as vs h.2⟩
 | [],_ :: _,h => by simp [repBL] at h
 | _ :: _,[],h => by simp [repBL] at h
end
def opdB : Opd → Operand → Bool
 | .tmp t,.tmp u => t == u
 | .const a,.const v => repB a v
 | .const (.func f [] []),.func g => f == g
 | _,_ => false
theorem opd_spec {K : Ghost} {e : Slots} {a : Act} (E : EnvRep K e a.tmps) {x : Opd} {y : Operand} {v : AV} (h : opdB x y = true) (hv : x.val e = some v) : Rep K v (a.eval y):=by
 unfold opdB at h
 split at h
 ·simp only [beq_iff_eq] at h
  subst h
  exact (E _ _ hv).2
 ·simp only [Opd.val,Option.some.injEq] at hv
  subst hv
  exact repB_spec K _ _ h
 ·simp only [beq_iff_eq] at h
  subst h
  simp only [Opd.val,Option.some.injEq] at hv
  subst hv
  simp [Rep,Act.eval,RepT]
 ·simp at h
def opdsB : List Opd → List Operand → Bool
 | [],[] => true
 | x :: xs,y :: ys => opdB x y && opdsB xs ys
 | _,_ => false
theorem opds_spec {K : Ghost} {e : Slots} {a : Act} (E : EnvRep K e a.tmps) : ∀ {xs : List Opd} {ys : List Operand} {vs : List AV},opdsB xs ys = true → vals xs e = some vs → RepT K vs (ys.map a.eval)
 | [],[],vs,_,hv => by simp only [vals,Option.some.injEq] at hv; subst hv; simp [RepT]
 | x :: xs,y :: ys,vs,h,hv => by
  simp only [opdsB,Bool.and_eq_true] at h
  simp only [vals] at hv
  cases hx : x.val e with
  | none => simp [hx] at hv
  | some v =>
   cases hxs : vals xs e with
   | none => simp [hx,hxs] at hv
   | some us =>
    simp only [hx,hxs,Option.some.injEq] at hv
    subst hv
    simp only [List.map_cons,RepT]
    exact ⟨_,_,rfl,opd_spec E h.1 hx,opds_spec E h.2 hxs⟩
 | [],_ :: _,_,h,_ => by simp [opdsB] at h
 | _ :: _,[],_,h,_ => by simp [opdsB] at h
end Go.Proofs.YtmeakjgbjldkdaaGreat.Ai
namespace Go.Proofs.YtmeakjgbjldkdaaGreat.Ai
open Go
variable {P : Program} {K : Ghost} {S : St} {w : World}
theorem Rep.canon1 {a : AV} {v : Value} (r : Rep K a v) : Rep K (canon1 a) v:=by
 unfold Ai.canon1
 split
 ·exact r
 ·simp only [Rep] at r ⊢
  obtain ⟨base,cap,hv,hc,hs,h⟩:=r
  refine ⟨base,cap,hv,hc,hs,h.imp id ?_⟩
  rintro ⟨B,o,vs,hb,hf,hr,hz,_⟩
  exact ⟨B,o,vs,hb,hf,hr,hz,trivial⟩
 ·exact r
theorem one_canon1 (a : AV) : (canon1 a).one = a.one:=by
 unfold Ai.canon1
 split <;> rfl
theorem closed_canon1 (a : AV) : closed1 (canon1 a) = closed1 a:=by
 unfold Ai.canon1
 split <;> simp [closed1]
theorem RepL.canon : ∀ {a : List AV} {v : List Value},RepL K a v → RepL K (canonL a) v
 | [],_,r => r
 | a :: as,v,r => by
  simp only [RepL] at r
  obtain ⟨x,xs,rfl,h1,h2,h3⟩:=r
  simp only [canonL,List.map_cons,RepL]
  exact ⟨x,xs,rfl,by rw [one_canon1]; exact h1,h2.canon1,RepL.canon h3⟩
theorem closedL_canon : ∀ (a : List AV),closedL (canonL a) = closedL a
 | [] => rfl
 | a :: as => by
  have:=closedL_canon as
  simp only [canonL,List.map_cons,closedL,closed_canon1] at *
  rw [this]
theorem cells_at {w : World} {B : Nat} {vs : Array Value} {t : TypeId} {f : Nat × Nat} (h : w.heap[B]? = some (.cells vs t f)) (j : Nat) : w.cell? ⟨B,j,none⟩ = vs[j]?:=by
 simp [World.cell?,h]
theorem free_at {w : World} {B : Nat} {vs : Array Value} {t : TypeId} (h : w.heap[B]? = some (.cells vs t (0,0))) (j : Nat) : w.frozen? ⟨B,j,none⟩ = false:=by
 simp [World.frozen?,h]
theorem Rel.fix_cell (R : Rel K S w) {B o : Nat} {vs : List Value} (hf : K.fix B o vs) (j : Nat) (v : Value) (hj : vs[j]? = some v) : w.cell? ⟨B,o + j,none⟩ = some v:=by
 obtain ⟨l,hg,hl⟩:=hf
 obtain ⟨us,t,hb,ht⟩:=R.rows B l hg
 rw [cells_at hb]
 have hjl : j < vs.length:=(List.getElem?_eq_some_iff.1 hj).1
 have h1 : l[o + j]? = some v:=by
  rw [← hl] at hj
  rw [List.getElem?_take,if_pos hjl] at hj
  simpa using hj
 have hll : o + j < l.length:=(List.getElem?_eq_some_iff.1 h1).1
 rw [← ht,List.getElem?_take,if_pos hll] at h1
 simpa using h1
def kindB (P : Program) (T : TypeId) (k : Option Nat) : Bool:=
 match P.underlying T,P.info? T with
 | some d,some i => k == (if d.isRow then some i.size else none)
 | _,_ => false
theorem run_loadVar_one {T : TypeId} {B o : Nat} {u : Value} (hk : kindB P T none = true) (hc : w.cell? ⟨B,o,none⟩ = some u) : (loadVar T ⟨B,o,none⟩).run P w = .ok u w:=by
 unfold kindB at hk
 split at hk
 ·rename_i d i hd hi
  split at hk
  ·simp at hk
  ·rename_i hn
   have : (isAgg T).run P w = .ok false w:=by
    unfold isAgg
    rw [Sem.run_bind,run_underlying hd w]
    cases d <;> simp_all [TypeDesc.isRow]
   simp [loadVar,this,hc]
 ·simp at hk
theorem run_loadVar_many {T : TypeId} {B o m : Nat} {us : List Value} (hk : kindB P T (some m) = true) (hl : us.length = m) (hc : ∀ j v,us[j]? = some v → w.cell? ⟨B,o + j,none⟩ = some v) :
  (loadVar T ⟨B,o,none⟩).run P w = .ok (.agg us.toArray) w:=by
 unfold kindB at hk
 split at hk
 ·rename_i d i hd hi
  split at hk
  ·rename_i hr
   simp at hk
   exact run_loadVar_mid w B o T us d hc hd hr (by rw [hi]; simp; omega)
  ·simp at hk
 ·simp at hk
theorem load_sim {T : TypeId} {k : Option Nat} {a v : AV} {p : Value} (R : Rel K S w) (hk : kindB P T k = true) (hp : Rep K a p) (hv : aload k a S.heap = some v) :
  ∃ v',(Instr.loadAt T p).run P w = .ok v' w ∧ Rep K v v':=by
 cases a <;> try (simp [aload] at hv; done)
 case ptr n off =>
  simp only [Rep] at hp
  obtain ⟨B,hm,rfl⟩:=hp
  simp only [aload] at hv
  cases hb : S.heap[n]? with
  | none => simp [hb] at hv
  | some b =>
   cases b with
   | map es => simp [hb] at hv
   | cells cs =>
    obtain ⟨vs,t,hw,hr⟩:=R.cells n B cs hm hb
    simp only [hb] at hv
    cases k with
    | none =>
     obtain ⟨u,hu,h1,h2⟩:=hr.get off v hv
     refine ⟨u,?_,h2⟩
     simp only [Instr.loadAt,Instr.sureAddr,Sem.run_bind,Sem.run_pure,Result.andThen_ok]
     exact run_loadVar_one hk (by rw [cells_at hw]; simpa using hu)
    | some m =>
     simp only [Option.ite_none_right_eq_some,Option.some.injEq] at hv
     obtain ⟨hle,rfl⟩:=hv
     refine ⟨.agg ((vs.toList.drop off).take m).toArray,?_,?_⟩
     ·simp only [Instr.loadAt,Instr.sureAddr,Sem.run_bind,Sem.run_pure,Result.andThen_ok]
      have hl:=hr.length
      refine run_loadVar_many hk (by simp at hl ⊢; omega) (fun j u hj => ?_)
      rw [cells_at hw]
      rw [List.getElem?_take] at hj
      split at hj
      ·simpa using hj
      ·simp at hj
     ·simp only [Rep]
      exact ⟨_,rfl,((hr.drop off).take m).canon⟩
 case ref cs =>
  simp only [Rep] at hp
  obtain ⟨B,o,vs,rfl,hf,hr⟩:=hp
  cases k with
  | none =>
   simp only [aload] at hv
   obtain ⟨u,hu,h1,h2⟩:=hr.get 0 v hv
   refine ⟨u,?_,h2⟩
   simp only [Instr.loadAt,Instr.sureAddr,Sem.run_bind,Sem.run_pure,Result.andThen_ok]
   exact run_loadVar_one hk (by simpa using R.fix_cell hf 0 u hu)
  | some m =>
   simp only [aload,Option.ite_none_right_eq_some,Option.some.injEq] at hv
   obtain ⟨hle,rfl⟩:=hv
   refine ⟨.agg (vs.take m).toArray,?_,?_⟩
   ·simp only [Instr.loadAt,Instr.sureAddr,Sem.run_bind,Sem.run_pure,Result.andThen_ok]
    have hl:=hr.length
    refine run_loadVar_many hk (by simp; omega) (fun j u hj => ?_)
    refine R.fix_cell hf j u ?_
    rw [List.getElem?_take] at hj
    split at hj
    ·exact hj
    ·simp at hj
   ·simp only [Rep]
    exact ⟨_,rfl,hr.take m⟩
def zeroB (P : Program) (T : TypeId) (zs : List AV) : Bool:=
 match P.info? T with
 | some i => match i.zero with
  | some z => repBL zs z.cells.toList && z.cells.size == i.size
  | none => false
 | none => false
theorem zeroB_spec (K : Ghost) {T : TypeId} {zs : List AV} (h : zeroB P T zs = true) : ∃ i z,P.info? T = some i ∧ i.zero = some z ∧ RepL K zs z.cells.toList ∧ z.cells.size = i.size:=by
 unfold zeroB at h
 split at h
 ·rename_i i hi
  split at h
  ·rename_i z hz
   simp only [Bool.and_eq_true,beq_iff_eq] at h
   exact ⟨i,z,hi,hz,repBL_spec K _ _ h.1,h.2⟩
  ·simp at h
 ·simp at h
theorem run_zeroValue {T : TypeId} {i : TypeInfo} {z : Value} (hi : P.info? T = some i) (hz : i.zero = some z) : (zeroValue T).run P w = .ok z w:=by
 simp [zeroValue,typeInfo,hi,hz]
theorem run_sizeOf {T : TypeId} {i : TypeInfo} (hi : P.info? T = some i) : (sizeOf T).run P w = .ok i.size w:=by
 simp [sizeOf,typeInfo,hi]
theorem heap_push (w : World) (o : Obj) (k : Nat) : ({w with heap:=w.heap.push o} : World).heap[k]? = if k = w.heap.size then some o else w.heap[k]?:=by
 simp only [Array.getElem?_push]
theorem new_named (R : Rel K S w) {n : Nat} {cs : List AV} {vs : Array Value} {t : TypeId} (hn : K.m n = none) (hS : S.heap[n]? = some (.cells cs)) (hr : RepL K cs vs.toList) :
  ∃ K',Ext K K' ∧ K'.m n = some w.heap.size ∧ Rel K' S {w with heap:=w.heap.push (.cells vs t)} ∧ Step K (fun k => k ≠ n) w K' {w with heap:=w.heap.push (.cells vs t)}:=by
 have old : ∀ k B,K.m k = some B → B < w.heap.size:=fun k B hk => by
  have hlt:=R.dom k B hk
  cases hb : S.heap[k]? with
  | none => simp at hb; omega
  | some b =>
   cases b with
   | cells cs =>
    obtain ⟨vs,t,hw,_⟩:=R.cells k B cs hk hb
    exact (Array.getElem?_eq_some_iff.1 hw).1
   | map es =>
    obtain ⟨ms,ck,hw,_⟩:=R.maps k B es hk hb
    exact (Array.getElem?_eq_some_iff.1 hw).1
 have oldg : ∀ B l,K.g B = some l → B < w.heap.size:=fun B l hg => by
  obtain ⟨vs,t,hw,_⟩:=R.rows B l hg
  exact (Array.getElem?_eq_some_iff.1 hw).1
 refine ⟨{K with m:=fun k => if k = n then some w.heap.size else K.m k},?_,by simp,?_,?_⟩
 ·refine ⟨fun k B hk => ?_,fun B l hg => ⟨[],by simpa using hg⟩,fun B b E sz size ha => ⟨E,ha,Nat.le_refl _,fun l l' h1 h2 => ?_⟩,fun _ _ _ h => h⟩
  ·by_cases hkn : k = n
   ·subst hkn; rw [hn] at hk; cases hk
   ·simp [hkn,hk]
  ·simp only at h2; rw [h1] at h2; cases h2; simp
 ·have hx : Ext K {K with m:=fun k => if k = n then some w.heap.size else K.m k}:=by
   refine ⟨fun k B hk => ?_,fun B l hg => ⟨[],by simpa using hg⟩,fun B b E sz size ha => ⟨E,ha,Nat.le_refl _,fun l l' h1 h2 => ?_⟩,fun _ _ _ h => h⟩
   ·by_cases hkn : k = n
    ·subst hkn; rw [hn] at hk; cases hk
    ·simp [hkn,hk]
   ·simp only at h2; rw [h1] at h2; cases h2; simp
  refine ⟨?_,?_,?_,?_,?_,?_,?_⟩
  ·intro k B hk
   simp only at hk
   split at hk
   ·rename_i h; subst h; exact (List.getElem?_eq_some_iff.1 hS).1
   ·exact R.dom k B hk
  ·intro k k' B hk hk'
   simp only at hk hk'
   split at hk <;> split at hk'
   ·simp_all
   ·simp only [Option.some.injEq] at hk; have:=old _ _ hk'; omega
   ·simp only [Option.some.injEq] at hk'; have:=old _ _ hk; omega
   ·exact R.inj k k' B hk hk'
  ·intro k B hk
   simp only at hk ⊢
   split at hk
   ·simp only [Option.some.injEq] at hk
    cases hg : K.g B with
    | none => rfl
    | some l => have:=oldg B l hg; omega
   ·exact R.sep k B hk
  ·intro k B cs' hk hb
   simp only at hk
   rw [heap_push]
   split at hk
   ·rename_i h
    simp only [Option.some.injEq] at hk
    subst hk h
    rw [hS] at hb
    cases hb
    exact ⟨vs,t,by simp,RepL.ext hx _ _ hr⟩
   ·have hlt:=old k B hk
    obtain ⟨vs',t',hw,hr'⟩:=R.cells k B cs' hk hb
    exact ⟨vs',t',by rw [if_neg (by omega)]; exact hw,RepL.ext hx _ _ hr'⟩
  ·intro k B es hk hb
   simp only at hk
   rw [heap_push]
   split at hk
   ·rename_i h
    subst h
    rw [hS] at hb
    cases hb
   ·have hlt:=old k B hk
    obtain ⟨ms,ck,hw,hr'⟩:=R.maps k B es hk hb
    refine ⟨ms,ck,by rw [if_neg (by omega)]; exact hw,?_⟩
    clear hb hw
    generalize ms.toList = l at hr'
    induction es generalizing l with
    | nil => simpa only [RepM] using hr'
    | cons x es ih =>
     simp only [RepM] at hr' ⊢
     obtain ⟨m,ms',h1,h2,h3,h4⟩:=hr'
     exact ⟨m,ms',h1,h2,Rep.ext hx _ _ h3,ih _ h4⟩
  ·intro B l hg
   have hlt:=oldg B l hg
   obtain ⟨vs',t',hw,ht⟩:=R.rows B l hg
   exact ⟨vs',t',by rw [heap_push,if_neg (by omega)]; exact hw,ht⟩
  ·intro B b E sz size ha
   obtain ⟨l,hg,⟨vs',t',hw,hs⟩,hrow⟩:=R.grow B b E sz size ha
   have hlt:=oldg B l hg
   exact ⟨l,hg,⟨vs',t',by rw [heap_push,if_neg (by omega)]; exact hw,hs⟩,hrow⟩
 ·refine ⟨?_,rfl,rfl,rfl,by simp,?_,?_,?_,fun _ x h => .inl ⟨x,h⟩⟩
  ·refine ⟨fun k B hk => ?_,fun B l hg => ⟨[],by simpa using hg⟩,fun B b E sz size ha => ⟨E,ha,Nat.le_refl _,fun l l' h1 h2 => ?_⟩,fun _ _ _ h => h⟩
   ·by_cases hkn : k = n
    ·subst hkn; rw [hn] at hk; cases hk
    ·simp [hkn,hk]
   ·simp only at h2; rw [h1] at h2; cases h2; simp
  ·intro B hB _ _
   rw [heap_push,if_neg (by omega)]
  ·intro B hB h1 h2
   refine ⟨fun k hk => ?_,h2⟩
   simp only at hk
   split at hk
   ·simp only [Option.some.injEq] at hk; omega
   ·exact h1 k hk
  ·intro k hk h
   simp only at hk ⊢
   rw [if_neg hk]; exact h
theorem Rel.lt_m (R : Rel K S w) {k B : Nat} (hk : K.m k = some B) : B < w.heap.size:=by
 have hlt:=R.dom k B hk
 cases hb : S.heap[k]? with
 | none => simp at hb; omega
 | some b =>
  cases b with
  | cells cs =>
   obtain ⟨vs,t,hw,_⟩:=R.cells k B cs hk hb
   exact (Array.getElem?_eq_some_iff.1 hw).1
  | map es =>
   obtain ⟨ms,ck,hw,_⟩:=R.maps k B es hk hb
   exact (Array.getElem?_eq_some_iff.1 hw).1
theorem Rel.lt_g (R : Rel K S w) {B : Nat} {l : List Value} (hg : K.g B = some l) : B < w.heap.size:=by
 obtain ⟨vs,t,hw,_⟩:=R.rows B l hg
 exact (Array.getElem?_eq_some_iff.1 hw).1
theorem RepM.ext {K' : Ghost} (hx : Ext K K') : ∀ {es : List (Str × AV)} {l : List MapEntry},RepM K es l → RepM K' es l
 | [],_,h => by simpa only [RepM] using h
 | x :: es,l,h => by
  simp only [RepM] at h ⊢
  obtain ⟨m,ms',h1,h2,h3,h4⟩:=h
  exact ⟨m,ms',h1,h2,Rep.ext hx _ _ h3,RepM.ext hx h4⟩
theorem new_row (R : Rel K S w) (vs : Array Value) (t : TypeId) :
  ∃ K',(K'.g w.heap.size = some vs.toList ∧ K'.a w.heap.size = none) ∧ K'.m = K.m ∧ Rel K' S {w with heap:=w.heap.push (.cells vs t)} ∧ ∀ X,Step K X w K' {w with heap:=w.heap.push (.cells vs t)}:=by
 have hg0 : K.g w.heap.size = none:=by
  cases hg : K.g w.heap.size with
  | none => rfl
  | some l => have:=R.lt_g hg; omega
 have ha0 : ∀ b E sz size,K.a w.heap.size ≠ some (b,E,sz,size):=fun b E sz size ha => by
  obtain ⟨l,hg,_⟩:=R.grow _ _ _ _ _ ha
  rw [hg0] at hg; cases hg
 have hx : Ext K {K with g:=fun B => if B = w.heap.size then some vs.toList else K.g B}:=by
  refine ⟨fun k B hk => hk,fun B l hg => ⟨[],?_⟩,fun B b E sz size ha => ⟨E,ha,Nat.le_refl _,fun l l' h1 h2 => ?_⟩,fun _ _ _ h => h⟩
  ·have:=R.lt_g hg
   simp only [List.append_nil]
   rw [if_neg (by omega)]; exact hg
  ·have:=R.lt_g h1
   simp only at h2
   rw [if_neg (by omega),h1] at h2; cases h2; simp
 refine ⟨{K with g:=fun B => if B = w.heap.size then some vs.toList else K.g B},⟨by simp,?_⟩,rfl,?_,fun X => ?_⟩
 ·cases ha : K.a w.heap.size with
  | none => rfl
  | some x =>
   obtain ⟨b,E,sz,size⟩:=x
   exact absurd ha (ha0 b E sz size)
 ·refine ⟨R.dom,R.inj,?_,?_,?_,?_,?_⟩
  ·intro k B hk
   have:=R.lt_m hk
   simp only
   rw [if_neg (by omega)]; exact R.sep k B hk
  ·intro k B cs hk hb
   have hlt:=R.lt_m hk
   obtain ⟨vs',t',hw,hr'⟩:=R.cells k B cs hk hb
   exact ⟨vs',t',by rw [heap_push,if_neg (by omega)]; exact hw,RepL.ext hx _ _ hr'⟩
  ·intro k B es hk hb
   have hlt:=R.lt_m hk
   obtain ⟨ms,ck,hw,hr'⟩:=R.maps k B es hk hb
   exact ⟨ms,ck,by rw [heap_push,if_neg (by omega)]; exact hw,hr'.ext hx⟩
  ·intro B l hg
   simp only at hg
   rw [heap_push]
   split at hg
   ·rename_i h
    simp only [Option.some.injEq] at hg
    subst hg
    exact ⟨vs,t,by simp [h],by rw [List.take_of_length_le (Nat.le_refl _)]⟩
   ·have hlt:=R.lt_g hg
    obtain ⟨vs',t',hw,ht⟩:=R.rows B l hg
    exact ⟨vs',t',by rw [if_neg (by omega)]; exact hw,ht⟩
  ·intro B b E sz size ha
   obtain ⟨l,hg,⟨vs',t',hw,hs⟩,hrow⟩:=R.grow B b E sz size ha
   have hlt:=R.lt_g hg
   exact ⟨l,by simp only; rw [if_neg (by omega)]; exact hg,⟨vs',t',by rw [heap_push,if_neg (by omega)]; exact hw,hs⟩,hrow⟩
 ·refine ⟨hx,rfl,rfl,rfl,by simp,?_,?_,fun _ _ h => h,fun _ x h => .inl ⟨x,h⟩⟩
  ·intro B hB _ _
   rw [heap_push,if_neg (by omega)]
  ·intro B hB h1 h2
   refine ⟨h1,?_⟩
   simp only
   rw [if_neg (by omega)]; exact h2
end Go.Proofs.YtmeakjgbjldkdaaGreat.Ai
namespace Go.Proofs.YtmeakjgbjldkdaaGreat.Ai
open Go
variable {P : Program} {K : Ghost} {S : St} {w : World}
theorem foldl_set_list (off : Nat) : ∀ (vs : List Value) (k : Nat) (cs : Array Value),off + k + vs.length ≤ cs.size →
  ((vs.zipIdx k).foldl (fun cs (x : Value × Nat) => cs.setIfInBounds (off + x.2) x.1) cs).toList = cs.toList.take (off + k) ++ vs ++ cs.toList.drop (off + k + vs.length)
 | [],k,cs,_ => by simp
 | v :: vs,k,cs,h => by
  simp only [List.length_cons] at h
  simp only [List.zipIdx_cons,List.foldl_cons]
  rw [foldl_set_list off vs (k + 1) _ (by simp; omega)]
  have hlt : off + k < cs.toList.length:=by simp; omega
  have e1 : (cs.setIfInBounds (off + k) v).toList = cs.toList.take (off + k) ++ v :: cs.toList.drop (off + k + 1):=by
   simp only [Array.toList_setIfInBounds]
   rw [List.set_eq_take_append_cons_drop,if_pos hlt]
  have hl : (cs.toList.take (off + k)).length = off + k:=by simp; omega
  rw [e1]
  have t1 : List.take (off + (k + 1)) (cs.toList.take (off + k) ++ v :: cs.toList.drop (off + k + 1)) = cs.toList.take (off + k) ++ [v]:=by
   rw [show off + (k + 1) = (off + k) + 1 by omega,List.take_append,List.take_of_length_le (by omega),hl]
   simp
  have t2 : List.drop (off + (k + 1) + vs.length) (cs.toList.take (off + k) ++ v :: cs.toList.drop (off + k + 1)) = cs.toList.drop (off + k + (v :: vs).length):=by
   rw [List.drop_append,List.drop_of_length_le (by rw [hl]; omega),hl]
   rw [show off + (k + 1) + vs.length - (off + k) = vs.length + 1 by omega]
   simp only [List.drop_succ_cons,List.drop_drop,List.nil_append,List.length_cons]
   congr 1; omega
  rw [t1,t2]
  simp
theorem overlay_set (off : Nat) (v : Value) (cs : Array Value) (h : off + v.cells.size ≤ cs.size) :
  (v.cells.zipIdx.foldl (fun cs (x : Value × Nat) => cs.setIfInBounds (off + x.2) x.1) cs).toList = cs.toList.take off ++ v.cells.toList ++ cs.toList.drop (off + v.cells.size):=by
 have:=foldl_set_list off v.cells.toList 0 cs (by simpa using h)
 simp only [Nat.add_zero] at this
 rw [← Array.foldl_toList]
 simpa using this
theorem RepL.overlay {a b : List AV} {u v : List Value} {off : Nat} (h : RepL K a u) (h' : RepL K b v) : RepL K (Ai.overlay a off b) (u.take off ++ v ++ u.drop (off + v.length)):=by
 unfold Ai.overlay
 rw [h'.length]
 exact ((h.take off).append h').append (h.drop _)
def partsB (places : List (Nat × Nat)) : List (Nat × Operand) → List (Nat × Nat × Opd) → Bool
 | [],[] => true
 | (i,x) :: ps,(off,sz,y) :: qs => places[i]? == some (off,sz) && opdB y x && partsB places ps qs
 | _,_ => false
theorem fill_sim {e : Slots} {a : Act} (E : EnvRep K e a.tmps) {places : List (Nat × Nat)} : ∀ {ps : List (Nat × Operand)} {qs : List (Nat × Nat × Opd)} {cs cs' : List AV} {vs : Array Value},
  partsB places ps qs = true → RepL K cs vs.toList → fillIn e qs cs = some cs' →
  ∃ vs',Instr.fill (places.toArray[·]?) vs (ps.map fun (i,x) => (i,a.eval x)) = some vs' ∧ RepL K cs' vs'.toList
 | [],[],cs,cs',vs,_,hr,hf => by
  simp only [fillIn,Option.some.injEq] at hf
  subst hf
  exact ⟨vs,rfl,hr⟩
 | (i,x) :: ps,(off,sz,y) :: qs,cs,cs',vs,h,hr,hf => by
  simp only [partsB,Bool.and_eq_true,beq_iff_eq] at h
  obtain ⟨⟨h1,h2⟩,h3⟩:=h
  simp only [fillIn] at hf
  split at hf
  ·rename_i v hv
   split at hf
   ·rename_i hc
    obtain ⟨hc1,hc2,hc3⟩:=hc
    have hrv:=opd_spec E h2 hv
    have hcells:=hrv.cells hc3
    have hlen:=hcells.length
    have hlen':=hr.length
    simp only [Array.length_toList] at hlen hlen'
    obtain ⟨vs',hf',hr'⟩:=fill_sim E (ps:=ps) (vs:=(a.eval x).cells.zipIdx.foldl (fun cs (z : Value × Nat) => cs.setIfInBounds (off + z.2) z.1) vs) h3
     (by rw [overlay_set off _ vs (by omega)]
         have:=RepL.overlay (off:=off) hr hcells
         simpa using this) hf
    refine ⟨vs',?_,hr'⟩
    have hp : places.toArray[i]? = some (off,sz):=by simpa using h1
    simp only [List.map_cons,Instr.fill,hp]
    rw [if_neg (by simp; omega)]
    exact hf'
   ·simp at hf
  ·simp at hf
 | [],_ :: _,_,_,_,h,_,_ => by simp [partsB] at h
 | _ :: _,[],_,_,_,h,_,_ => by simp [partsB] at h
def seqB : Nat → List (Nat × Operand) → List Opd → Bool
 | _,[],[] => true
 | k,(i,x) :: ps,y :: qs => i == k && opdB y x && seqB (k + 1) ps qs
 | _,_,_ => false
theorem seq_fill {e : Slots} {a : Act} (E : EnvRep K e a.tmps) {sz : Nat} : ∀ {ps : List (Nat × Operand)} {qs : List Opd} {us : List AV} {fl : List AV} (k : Nat) (cs : Array Value) (pre : List Value),
  seqB k ps qs = true → vals qs e = some us → flatOf sz us = some fl → cs.toList.take (k * sz) = pre → pre.length = k * sz → cs.size = (k + us.length) * sz →
  ∃ vs',Instr.fill (fun i => some (i * sz,sz)) cs (ps.map fun (i,x) => (i,a.eval x)) = some vs' ∧ ∃ new,vs'.toList = pre ++ new ∧ RepL K fl new
 | [],[],us,fl,k,cs,pre,_,hv,hf,hp,hl,hs => by
  simp only [vals,Option.some.injEq] at hv
  subst hv
  simp only [flatOf,Option.some.injEq] at hf
  subst hf
  refine ⟨cs,rfl,[],?_,by simp [RepL]⟩
  simp only [List.length_nil,Nat.add_zero] at hs
  rw [← hp,List.take_of_length_le (by simp; omega)]
  simp
 | (i,x) :: ps,y :: qs,us,fl,k,cs,pre,h,hv,hf,hp,hl,hs => by
  simp only [seqB,Bool.and_eq_true,beq_iff_eq] at h
  obtain ⟨⟨rfl,h2⟩,h3⟩:=h
  simp only [vals] at hv
  cases hx : y.val e with
  | none => simp [hx] at hv
  | some v =>
   cases hxs : vals qs e with
   | none => simp [hx,hxs] at hv
   | some vs =>
    simp only [hx,hxs,Option.some.injEq] at hv
    subst hv
    simp only [flatOf] at hf
    split at hf
    ·rename_i hc
     obtain ⟨hc1,hc2⟩:=hc
     cases hfl : flatOf sz vs with
     | none => simp [hfl] at hf
     | some fl' =>
      simp only [hfl,Option.map_some,Option.some.injEq] at hf
      subst hf
      have hcells:=(opd_spec E h2 hx).cells hc2
      have hlen:=hcells.length
      simp only [Array.length_toList] at hlen
      have hsz : (a.eval x).cells.size = sz:=by omega
      have hs' : cs.size = (i + (vs.length + 1)) * sz:=by simpa using hs
      have hmul : (i + (vs.length + 1)) * sz = i * sz + sz + vs.length * sz:=by
       rw [Nat.add_mul,Nat.add_mul]; omega
      have hov:=overlay_set (i * sz) (a.eval x) cs (by omega)
      have hsize : ((a.eval x).cells.zipIdx.foldl (fun cs (z : Value × Nat) => cs.setIfInBounds (i * sz + z.2) z.1) cs).size = cs.size:=by
       have h1:=congrArg List.length hov
       rw [Array.length_toList] at h1
       rw [h1]
       simp only [List.length_append,List.length_take,List.length_drop,Array.length_toList]
       omega
      obtain ⟨vs',hf',new,hnew,hr⟩:=seq_fill E (ps:=ps) (i + 1) ((a.eval x).cells.zipIdx.foldl (fun cs (z : Value × Nat) => cs.setIfInBounds (i * sz + z.2) z.1) cs) (pre ++ (a.eval x).cells.toList)
       h3 hxs hfl (by
        rw [hov,hp]
        rw [List.append_assoc,← List.append_assoc pre]
        rw [List.take_append_of_le_length (by simp [hl,Nat.add_mul]; omega),List.take_of_length_le (by simp [hl,Nat.add_mul]; omega)])
       (by simp [hl,Nat.add_mul]; omega) (by rw [hsize,hs']; congr 1; omega)
      refine ⟨vs',?_,(a.eval x).cells.toList ++ new,by rw [hnew,List.append_assoc],hcells.append hr⟩
      simp only [List.map_cons,Instr.fill]
      rw [if_neg (by simp [hsz]; omega)]
      exact hf'
    ·simp at hf
 | [],_ :: _,_,_,_,_,_,h,_,_,_,_,_ => by simp [seqB] at h
 | _ :: _,[],_,_,_,_,_,h,_,_,_,_,_ => by simp [seqB] at h
theorem rowsOf_flat {sz : Nat} : ∀ {us : List AV} {rows : List (List AV)},rowsOf sz us = some rows →
  ∃ fl,flatOf sz us = some fl ∧ rows.flatten = canonL fl ∧ rows.length = us.length ∧ ∀ r ∈ rows,r.length = sz ∧ closedL r = true
 | [],rows,h => by simp only [rowsOf,Option.some.injEq] at h; subst h; exact ⟨[],rfl,rfl,rfl,by simp⟩
 | v :: vs,rows,h => by
  simp only [rowsOf] at h
  split at h
  ·rename_i hc
   obtain ⟨h1,h2,h3⟩:=hc
   cases hr : rowsOf sz vs with
   | none => simp [hr] at h
   | some rs =>
    simp only [hr,Option.map_some,Option.some.injEq] at h
    subst h
    obtain ⟨fl,hf,hfl,hl,hall⟩:=rowsOf_flat hr
    refine ⟨v.cells ++ fl,by simp [flatOf,h1,h3,hf],by simp [hfl,canonL],by simp [hl],?_⟩
    intro r hmem
    rcases List.mem_cons.1 hmem with rfl | hmem
    ·refine ⟨by simp [canonL,h1],?_⟩
     rw [closedL_canon]
     cases v <;> simp_all [AV.cells,closedL,closed1]
    ·exact hall r hmem
  ·simp at h
end Go.Proofs.YtmeakjgbjldkdaaGreat.Ai
