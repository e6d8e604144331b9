/- A part of what is proved: Stp, Stp2, Stp3, Rdr1, Rdr2, Nm1, L2. No condition. -/
import Derived.Test.YtmeakjgbjldkdaaGreatY6
import Derived.Test.YtmeakjgbjldkdaaGreatProg
import Derived.KernelRfl
set_option maxRecDepth 100000
set_option maxHeartbeats 16000000
namespace Go.Proofs.YtmeakjgbjldkdaaGreat.Ai
open Go
variable {pr : Prims} {F : Nat → Option IFn}
structure LdAt (kd : Option Nat) (v : AV) (S : St) (K : AV → Prop) : Prop where
 h : ∃ u,aload kd v S.heap = some u ∧ K u
structure BnAt (tk : TK) (op : BinOp) (u v : AV) (K : AV → Prop) : Prop where
 h : ∃ w,abin tk op u v = some w ∧ K w
structure IaAt (sz : Nat) (u i : AV) (K : AV → Prop) : Prop where
 h : ∃ r,(match u,i with
  | .list sz' _ rows,.int _ n => if 0 ≤ n ∧ sz' = sz then (rows[n.toNat]?).map AV.ref else none
  | .arr m off sz' len,.int _ n => if 0 ≤ n ∧ n < len ∧ sz' = sz then some (.ptr m (off + n.toNat * sz)) else none
  | _,_ => none) = some r ∧ K r
structure LsAt (sz : Nat) (vs : List AV) (K : AV → Prop) : Prop where
 h : ∃ rows,rowsOf sz vs = some rows ∧ K (.list sz .full rows)
def storeV (b0 kd : Nat) (p v : AV) (S : St) : Option St:=
 match p with
 | .ptr n off => match S.heap[n]? with
  | some (.cells cs) => if v.cells.length = kd ∧ v.okv = true ∧ off + kd ≤ cs.length ∧ (b0 ≤ n ∨ below (n + 1) v = true) then some {S with heap:=S.heap.set n (.cells (overlay cs off v.cells))} else none
  | _ => none
 | _ => none
structure StAt (b0 kd : Nat) (p v : AV) (S : St) (K : St → Prop) : Prop where
 h : ∃ S',storeV b0 kd p v S = some S' ∧ K S'
structure ClAt (pr : Prims) (F : Nat → Option IFn) (fn : Nat) (args : List AV) (S : St) (K : AV → St → Prop) : Prop where
 h : ∃ v S',Det pr F fn args S (.ret v) S' ∧ K v S'
structure ApAt (sz by_ : Nat) (u v : AV) (S : St) (K : AV → St → Prop) : Prop where
 h : ∃ r S',aappend sz by_ u v S = some (r,S') ∧ K r S'
structure LkAt (zero : AV) (ok : Bool) (m key : AV) (S : St) (K : AV → Prop) : Prop where
 h : ∃ r,(match m,key with
  | .map n,.str s => match S.heap[n]? with
   | some (.map es) => match mlook es s with
    | some v => some (if ok then AV.tup [v,.bool true] else v)
    | none => some (if ok then .tup [zero,.bool false] else zero)
   | _ => none
  | .nilm,.str _ => some (if ok then .tup [zero,.bool false] else zero)
  | _,_ => none) = some r ∧ K r
variable {b0 base : Nat} {Q : Ex → Env → St → Prop} {k : List Fr} {e : Env} {prev items : List Item} {kp : List Nat} {ix : Nat} {d : Option Nat} {g : Option (Nat × Bool)} {S : St}
theorem g_mov {x : Opd} {v : AV} (hw : wanted g (eget e) = some true) (hx : x.val (eget e) = some v) (h : In pr F b0 Q base (⟨ix,d,g,.q (.mov x)⟩ :: prev) items kp k (eput e d v) S) : In pr F b0 Q base prev (⟨ix,d,g,.q (.mov x)⟩ :: items) kp k e S:=in_q hw hx h
theorem g_load {kd : Option Nat} {x : Opd} {v : AV} (hw : wanted g (eget e) = some true) (hx : x.val (eget e) = some v) (h : LdAt kd v S fun u => In pr F b0 Q base (⟨ix,d,g,.q (.load kd x)⟩ :: prev) items kp k (eput e d u) S) : In pr F b0 Q base prev (⟨ix,d,g,.q (.load kd x)⟩ :: items) kp k e S:=by
 obtain ⟨u,hu,hk⟩:=h
 exact in_q hw (by simp only [qval,hx,hu]) hk
theorem g_bin {tk : TK} {op : BinOp} {x y : Opd} {u v : AV} (hw : wanted g (eget e) = some true) (hx : x.val (eget e) = some u) (hy : y.val (eget e) = some v) (h : BnAt tk op u v fun w => In pr F b0 Q base (⟨ix,d,g,.q (.bin tk op x y)⟩ :: prev) items kp k (eput e d w) S) : In pr F b0 Q base prev (⟨ix,d,g,.q (.bin tk op x y)⟩ :: items) kp k e S:=by
 obtain ⟨w,hu,hk⟩:=h
 exact in_q hw (by simp only [qval,hx,hy,hu]) hk
theorem g_ixa {sz : Nat} {x y : Opd} {u v : AV} (hw : wanted g (eget e) = some true) (hx : x.val (eget e) = some u) (hy : y.val (eget e) = some v) (h : IaAt sz u v fun w => In pr F b0 Q base (⟨ix,d,g,.q (.indexAddr sz x y)⟩ :: prev) items kp k (eput e d w) S) : In pr F b0 Q base prev (⟨ix,d,g,.q (.indexAddr sz x y)⟩ :: items) kp k e S:=by
 obtain ⟨w,hu,hk⟩:=h
 refine in_q hw ?_ hk
 simp only [qval,hx,hy]
 cases u <;> cases v <;> simp_all
theorem g_list {sz : Nat} {xs : List Opd} {vs : List AV} (hw : wanted g (eget e) = some true) (hx : vals xs (eget e) = some vs) (h : LsAt sz vs fun w => In pr F b0 Q base (⟨ix,d,g,.q (.mkList sz xs)⟩ :: prev) items kp k (eput e d w) S) : In pr F b0 Q base prev (⟨ix,d,g,.q (.mkList sz xs)⟩ :: items) kp k e S:=by
 obtain ⟨w,hu,hk⟩:=h
 exact in_q hw (by simp only [qval,hx,hu,Option.map_some]) hk
theorem g_lookup {zero : AV} {ok : Bool} {x y : Opd} {u v : AV} (hw : wanted g (eget e) = some true) (hx : x.val (eget e) = some u) (hy : y.val (eget e) = some v) (h : LkAt zero ok u v S fun w => In pr F b0 Q base (⟨ix,d,g,.q (.lookup zero ok x y)⟩ :: prev) items kp k (eput e d w) S) : In pr F b0 Q base prev (⟨ix,d,g,.q (.lookup zero ok x y)⟩ :: items) kp k e S:=by
 obtain ⟨w,hu,hk⟩:=h
 refine in_q hw ?_ hk
 simp only [qval,hx,hy]
 cases u <;> cases v <;> first | exact hu | (exact absurd hu (by simp))
theorem g_store {re : List Nat} {kd : Nat} {x y : Opd} {u v : AV} (hw : wanted g (eget e) = some true) (hx : x.val (eget e) = some u) (hy : y.val (eget e) = some v)
  (h : StAt b0 kd u v S fun S' => recheck prev re (eput e d .undef) S'.heap base = true ∧ In pr F b0 Q base (⟨ix,d,g,.l (.store kd x y) re⟩ :: prev) items kp k (eput e d .undef) S') : In pr F b0 Q base prev (⟨ix,d,g,.l (.store kd x y) re⟩ :: items) kp k e S:=by
 obtain ⟨S',hu,hr,hk⟩:=h
 refine in_l hw ?_ hr hk
 unfold storeV at hu
 simp only [lval,hx,hy]
 split at hu
 ·simp only
  split at hu
  ·rename_i cs hH
   split at hu
   ·rename_i hc
    simp only [Option.some.injEq] at hu
    rw [hH]
    simp only
    rw [if_pos hc,hu]
   ·simp at hu
  ·simp at hu
 ·simp at hu
theorem g_call {re : List Nat} {f : Opd} {as_ : List Opd} {fn : Nat} {vs : List AV} (hw : wanted g (eget e) = some true) (hf : f.val (eget e) = some (.func fn [] [])) (ha : vals as_ (eget e) = some vs)
  (h : ClAt pr F fn vs S fun v S' => recheck prev re (eput e d v) S'.heap base = true ∧ In pr F b0 Q base (⟨ix,d,g,.l (.call f as_) re⟩ :: prev) items kp k (eput e d v) S') : In pr F b0 Q base prev (⟨ix,d,g,.l (.call f as_) re⟩ :: items) kp k e S:=by
 obtain ⟨v,S',hd,hr,hk⟩:=h
 exact in_call hw hf ha (by simpa using hd) hr hk
theorem g_callC {re : List Nat} {f : Opd} {as_ : List Opd} {fn : Nat} {a c vs ws : List AV} (hw : wanted g (eget e) = some true) (hf : f.val (eget e) = some (.func fn a c)) (ha : vals as_ (eget e) = some vs) (hws : a ++ vs ++ c = ws)
  (h : ClAt pr F fn ws S fun v S' => recheck prev re (eput e d v) S'.heap base = true ∧ In pr F b0 Q base (⟨ix,d,g,.l (.call f as_) re⟩ :: prev) items kp k (eput e d v) S') : In pr F b0 Q base prev (⟨ix,d,g,.l (.call f as_) re⟩ :: items) kp k e S:=by
 subst hws
 obtain ⟨v,S',hd,hr,hk⟩:=h
 exact in_call hw hf ha hd hr hk
theorem g_append {re : List Nat} {sz by_ : Nat} {x y : Opd} {u v : AV} (hw : wanted g (eget e) = some true) (hx : x.val (eget e) = some u) (hy : y.val (eget e) = some v)
  (h : ApAt sz by_ u v S fun r S' => recheck prev re (eput e d r) S'.heap base = true ∧ In pr F b0 Q base (⟨ix,d,g,.l (.append sz by_ x y) re⟩ :: prev) items kp k (eput e d r) S') : In pr F b0 Q base prev (⟨ix,d,g,.l (.append sz by_ x y) re⟩ :: items) kp k e S:=by
 obtain ⟨r,S',hu,hr,hk⟩:=h
 exact in_append hw hx hy hu hr hk
theorem g_append1 {re : List Nat} {sz by_ : Nat} {x y i z : Opd} {dd j9 j10 : Nat} {s0 szb m : Nat} {tag tagb : Tag} {rows : List (List AV)} {rb row : List AV} {v : AV} (hw : wanted g (eget e) = some true) (hx : x.val (eget e) = some (.list s0 tag rows)) (hy : y.val (eget e) = some (.list szb tagb [rb])) (hi : i.val (eget e) = some (.int .i64 m)) (hz : z.val (eget e) = some v)
  (hm : m = rows.length ∧ szb = sz ∧ v.cells.length = sz ∧ closed1 v = true ∧ v.okv = true ∧ eget e dd = none) (hrow : canonL v.cells = row)
  (h : ApAt sz by_ (.list s0 tag rows) (.list sz .full [row]) S fun r S' => recheck prev re (eput e d r) S'.heap base = true ∧ In pr F b0 Q base (⟨ix,d,g,.l (.append1 sz by_ x y i z dd j9 j10) re⟩ :: prev) items kp k (eput e d r) S') : In pr F b0 Q base prev (⟨ix,d,g,.l (.append1 sz by_ x y i z dd j9 j10) re⟩ :: items) kp k e S:=by
 obtain ⟨r,S',hu,hr,hk⟩:=h
 obtain ⟨h1,h2,h3,h4,h5,h6⟩:=hm
 subst h2
 subst hrow
 refine in_l hw ?_ hr hk
 simp only [lval,hx,hy,hi,hz]
 simp [h1,h3,h4,h5,h6,hu]
theorem g_q {q : QOp} {v : AV} (hw : wanted g (eget e) = some true) (hv : qval q (eget e) S.heap base = some v) (h : In pr F b0 Q base (⟨ix,d,g,.q q⟩ :: prev) items kp k (eput e d v) S) : In pr F b0 Q base prev (⟨ix,d,g,.q q⟩ :: items) kp k e S:=in_q hw hv h
theorem id_q {q : QOp} (h : In pr F b0 Q base prev (⟨ix,d,g,.q q⟩ :: items) kp k e S) : In pr F b0 Q base prev (⟨ix,d,g,.q q⟩ :: items) kp k e S:=h
theorem id_l {re : List Nat} {l : LOp} (h : In pr F b0 Q base prev (⟨ix,d,g,.l l re⟩ :: items) kp k e S) : In pr F b0 Q base prev (⟨ix,d,g,.l l re⟩ :: items) kp k e S:=h
theorem rec_nil {prev : List Item} {e : Env} {H : List Blk} {base : Nat} : recheck prev [] e H base = true:=recheck_nil _ _ _
section
variable {tk : TK} {op : BinOp} {u v : AV} {K : AV → Prop}
theorem b_int {ki : IntKind} {c c' : Int} (hv : abin tk op u v = some (.int ki c)) (hc : c = c') (h : K (.int ki c')) : BnAt tk op u v K:=⟨_,hv,hc ▸ h⟩
theorem b_true {c : Bool} (hv : abin tk op u v = some (.bool c)) (hc : c = true) (h : K (.bool true)) : BnAt tk op u v K:=⟨_,hv,hc ▸ h⟩
theorem b_false {c : Bool} (hv : abin tk op u v = some (.bool c)) (hc : c = false) (h : K (.bool false)) : BnAt tk op u v K:=⟨_,hv,hc ▸ h⟩
theorem b_two {c : Bool} (hv : abin tk op u v = some (.bool c)) (h : c = true → K (.bool true)) (h' : c = false → K (.bool false)) : BnAt tk op u v K:=by
 cases c with
 | true => exact ⟨_,hv,h rfl⟩
 | false => exact ⟨_,hv,h' rfl⟩
theorem b_str {c : Str} (hv : abin tk op u v = some (.str c)) (h : K (.str c)) : BnAt tk op u v K:=⟨_,hv,h⟩
theorem b_cat {s t : Str} (hl : s.length + t.length < 4611686018427387904) (h : K (.str (s ++ t))) : BnAt .num .add (.str s) (.str t) K:=⟨_,by simp only [abin,if_pos hl],h⟩
end
section
variable {K : AV → Prop}
theorem l_ref0 {cs : List AV} {u : AV} (hu : cs[0]? = some u) (h : K u) : LdAt none (.ref cs) S K:=⟨u,hu,h⟩
theorem l_ptr0 {n off : Nat} {cs : List AV} {u : AV} (hH : S.heap[n]? = some (.cells cs)) (hu : cs[off]? = some u) (h : K u) : LdAt none (.ptr n off) S K:=⟨u,by simp only [aload,hH,hu],h⟩
theorem l_ptrC {n m : Nat} {cs vs : List AV} (hH : S.heap[n]? = some (.cells cs)) (hc : canonL cs = vs) (hl : cs.length = m) (h : K (.agg vs)) : LdAt (some m) (.ptr n 0) S K:=by
 refine ⟨_,?_,h⟩
 simp only [aload,hH,hl,Nat.zero_add,Nat.le_refl,if_true,List.drop_zero]
 rw [List.take_of_length_le (by omega),hc]
theorem l_refS {m : Nat} {cs vs : List AV} (hl : m ≤ cs.length) (hc : cs.take m = vs) (h : K (.agg vs)) : LdAt (some m) (.ref cs) S K:=⟨_,by simp only [aload,if_pos hl,hc],h⟩
end
section
variable {K : AV → Prop}
theorem i_list {sz m : Nat} {tag : Tag} {rows : List (List AV)} {ki : IntKind} {n : Int} {r : List AV} (hr : rows[m]? = some r) (hn : n = (m : Nat)) (h : K (.ref r)) : IaAt sz (.list sz tag rows) (.int ki n) K:=by
 subst hn
 exact ⟨_,by simp [hr],h⟩
theorem i_arr {sz m off len : Nat} {ki : IntKind} {n : Int} {j : Nat} (hn : n = (j : Nat)) (hl : j < len) (h : K (.ptr m (off + j * sz))) : IaAt sz (.arr m off sz len) (.int ki n) K:=by
 subst hn
 exact ⟨_,by simp [hl],h⟩
end
theorem c_det {fn : Nat} {args : List AV} {K : AV → St → Prop} {v : AV} {S' : St} (hd : Det pr F fn args S (.ret v) S') (h : K v S') : ClAt pr F fn args S K:=⟨_,_,hd,h⟩
theorem id_bn {tk : TK} (op : BinOp) {u v : AV} {K : AV → Prop} (h : BnAt tk op u v K) : BnAt tk op u v K:=h
theorem id_bnS {tk : TK} (op : BinOp) {u v : Str} {K : AV → Prop} (h : BnAt tk op (.str u) (.str v) K) : BnAt tk op (.str u) (.str v) K:=h
theorem id_lref {m : Nat} {u : List AV} {K : AV → Prop} (h : LdAt (some m) (.ref u) S K) : LdAt (some m) (.ref u) S K:=h
theorem id_lptr {m n off : Nat} {K : AV → Prop} (h : LdAt (some m) (.ptr n off) S K) : LdAt (some m) (.ptr n off) S K:=h
theorem id_lptr0 {n off : Nat} {K : AV → Prop} (h : LdAt none (.ptr n off) S K) : LdAt none (.ptr n off) S K:=h
theorem id_ls1 {sz : Nat} {u : List AV} {K : AV → Prop} (h : LsAt sz [.agg u] K) : LsAt sz [.agg u] K:=h
theorem id_ls2 {sz : Nat} {u v : List AV} {K : AV → Prop} (h : LsAt sz [.agg u,.agg v] K) : LsAt sz [.agg u,.agg v] K:=h
theorem id_cl (fn : Nat) {args : List AV} {K : AV → St → Prop} (h : ClAt pr F fn args S K) : ClAt pr F fn args S K:=h
theorem id_cl2 (fn : Nat) {a c : AV} (b : AV) {K : AV → St → Prop} (h : ClAt pr F fn [a,b,c] S K) : ClAt pr F fn [a,b,c] S K:=h
theorem id_stagg {kd : Nat} {p : AV} {cs : List AV} {K : St → Prop} (h : StAt b0 kd p (.agg cs) S K) : StAt b0 kd p (.agg cs) S K:=h
theorem id_mov {x : Opd} (h : In pr F b0 Q base prev (⟨ix,d,g,.q (.mov x)⟩ :: items) kp k e S) : In pr F b0 Q base prev (⟨ix,d,g,.q (.mov x)⟩ :: items) kp k e S:=h
theorem id_load {kd : Option Nat} {x : Opd} (h : In pr F b0 Q base prev (⟨ix,d,g,.q (.load kd x)⟩ :: items) kp k e S) : In pr F b0 Q base prev (⟨ix,d,g,.q (.load kd x)⟩ :: items) kp k e S:=h
theorem id_bin {tk : TK} {op : BinOp} {x y : Opd} (h : In pr F b0 Q base prev (⟨ix,d,g,.q (.bin tk op x y)⟩ :: items) kp k e S) : In pr F b0 Q base prev (⟨ix,d,g,.q (.bin tk op x y)⟩ :: items) kp k e S:=h
theorem id_ixa {sz : Nat} {x y : Opd} (h : In pr F b0 Q base prev (⟨ix,d,g,.q (.indexAddr sz x y)⟩ :: items) kp k e S) : In pr F b0 Q base prev (⟨ix,d,g,.q (.indexAddr sz x y)⟩ :: items) kp k e S:=h
theorem id_ix {x y : Opd} (h : In pr F b0 Q base prev (⟨ix,d,g,.q (.index x y)⟩ :: items) kp k e S) : In pr F b0 Q base prev (⟨ix,d,g,.q (.index x y)⟩ :: items) kp k e S:=h
theorem id_list {sz : Nat} {xs : List Opd} (h : In pr F b0 Q base prev (⟨ix,d,g,.q (.mkList sz xs)⟩ :: items) kp k e S) : In pr F b0 Q base prev (⟨ix,d,g,.q (.mkList sz xs)⟩ :: items) kp k e S:=h
theorem id_alloc {j : Nat} {zs : List AV} (h : In pr F b0 Q base prev (⟨ix,d,g,.q (.alloc j zs)⟩ :: items) kp k e S) : In pr F b0 Q base prev (⟨ix,d,g,.q (.alloc j zs)⟩ :: items) kp k e S:=h
theorem id_cut {x : Opd} {l u : Option Opd} (h : In pr F b0 Q base prev (⟨ix,d,g,.q (.sliceS x l u)⟩ :: items) kp k e S) : In pr F b0 Q base prev (⟨ix,d,g,.q (.sliceS x l u)⟩ :: items) kp k e S:=h
theorem id_store {re : List Nat} {kd : Nat} {x y : Opd} (h : In pr F b0 Q base prev (⟨ix,d,g,.l (.store kd x y) re⟩ :: items) kp k e S) : In pr F b0 Q base prev (⟨ix,d,g,.l (.store kd x y) re⟩ :: items) kp k e S:=h
theorem id_call {re : List Nat} {f : Opd} {as_ : List Opd} (h : In pr F b0 Q base prev (⟨ix,d,g,.l (.call f as_) re⟩ :: items) kp k e S) : In pr F b0 Q base prev (⟨ix,d,g,.l (.call f as_) re⟩ :: items) kp k e S:=h
theorem id_append {re : List Nat} {sz by_ : Nat} {x y : Opd} (h : In pr F b0 Q base prev (⟨ix,d,g,.l (.append sz by_ x y) re⟩ :: items) kp k e S) : In pr F b0 Q base prev (⟨ix,d,g,.l (.append sz by_ x y) re⟩ :: items) kp k e S:=h
theorem id_append1 {re : List Nat} {sz by_ : Nat} {x y i z : Opd} {dd j9 j10 : Nat} (h : In pr F b0 Q base prev (⟨ix,d,g,.l (.append1 sz by_ x y i z dd j9 j10) re⟩ :: items) kp k e S) : In pr F b0 Q base prev (⟨ix,d,g,.l (.append1 sz by_ x y i z dd j9 j10) re⟩ :: items) kp k e S:=h
theorem id_nil (h : In pr F b0 Q base prev [] kp k e S) : In pr F b0 Q base prev [] kp k e S:=h
theorem id_region {al : List (List AV)} (h : At pr F b0 Q (.region al items kp) k e S) : At pr F b0 Q (.region al items kp) k e S:=h
theorem id_cond {c : Opd} {a b : IC} (h : At pr F b0 Q (.cond c a b) k e S) : At pr F b0 Q (.cond c a b) k e S:=h
end Go.Proofs.YtmeakjgbjldkdaaGreat.Ai
namespace Go.Proofs.YtmeakjgbjldkdaaGreat.Ai
open Go
variable {pr : Prims} {F : Nat → Option IFn}
variable {b0 base : Nat} {Q : Ex → Env → St → Prop} {k : List Fr} {e : Env} {prev items : List Item} {kp : List Nat} {ix : Nat} {d : Option Nat} {g : Option (Nat × Bool)}
variable {H : List Blk} {rw : List Nat} {n : Nat} {b : Blk} {M M' : List Blk}
theorem at_regN (hm : Mono pr) {al : List (List AV)} {L : Nat} (hlt : n < H.length) (hM : M ++ al.map .cells = M') (hL : M.length = L) (h : In pr F b0 Q (H.length + L) [] items kp k e ⟨hp H n b M',rw⟩) :
  At pr F b0 Q (.region al items kp) k e ⟨hp H n b M,rw⟩:=by
 subst hM hL
 exact at_region hm (hp_app hlt) hp_len h
theorem in_allocN {j L q : Nat} {zs : List AV} (hlt : n < H.length) (hw : wanted g (eget e) = some true) (hq : L + j = q) (hM : M[q]? = some (.cells zs)) (h : In pr F b0 Q (H.length + L) (⟨ix,d,g,.q (.alloc j zs)⟩ :: prev) items kp k (eput e d (.ptr (H.length + q) 0)) ⟨hp H n b M,rw⟩) :
  In pr F b0 Q (H.length + L) prev (⟨ix,d,g,.q (.alloc j zs)⟩ :: items) kp k e ⟨hp H n b M,rw⟩:=by
 subst hq
 exact in_alloc hw (Nat.add_assoc _ _ _) ((hp_own hlt _).trans hM) h
theorem overlay_all {cs vs : List AV} (h : cs.length = vs.length) : overlay cs 0 vs = vs:=by
 simp [overlay,h]
section
variable {K : St → Prop}
theorem s_own {kd j off : Nat} {v : AV} {cs cs' : List AV} (hlt : n < H.length) (hb : b0 ≤ H.length + j ∨ Ai.below (H.length + j + 1) v = true) (hM : M[j]? = some (.cells cs)) (hv : v.cells.length = kd ∧ v.okv = true ∧ off + kd ≤ cs.length) (hc : overlay cs off v.cells = cs') (hs : M.set j (.cells cs') = M') (h : K ⟨hp H n b M',rw⟩) :
  StAt b0 kd (.ptr (H.length + j) off) v ⟨hp H n b M,rw⟩ K:=by
 subst hc hs
 refine ⟨_,?_,h⟩
 unfold storeV
 simp only [(hp_own hlt j).trans hM]
 rw [if_pos ⟨hv.1,hv.2.1,hv.2.2,hb⟩,hp_set_own hlt]
theorem s_ownA {kd j : Nat} {vs cs : List AV} (hlt : n < H.length) (hb : b0 ≤ H.length + j ∨ Ai.below (H.length + j + 1) (.agg vs) = true) (hM : M[j]? = some (.cells cs)) (hc : cs.length = kd) (hv : vs.length = kd) (hs : M.set j (.cells vs) = M') (h : K ⟨hp H n b M',rw⟩) :
  StAt b0 kd (.ptr (H.length + j) 0) (.agg vs) ⟨hp H n b M,rw⟩ K:=
 s_own hlt hb hM ⟨hv,rfl,by omega⟩ (overlay_all (by rw [hc]; exact hv.symm)) hs h
theorem s_ownR {kd j : Nat} {vs cs : List AV} (hlt : n < H.length) (hM : M[j]? = some (.cells cs)) (hc : cs.length = kd) (hv : Row kd vs) (hs : M.set j (.cells vs) = M') (h : K ⟨hp H n b M',rw⟩) :
  StAt b0 kd (.ptr (H.length + j) 0) (.agg vs) ⟨hp H n b M,rw⟩ K:=s_ownA hlt (.inr (hv.below _)) hM hc hv.len hs h
end
section
variable {L : AV → Prop}
theorem l_ownR {kd j : Nat} {vs : List AV} (hlt : n < H.length) (hM : M[j]? = some (.cells vs)) (hv : Row kd vs) (h : L (.agg vs)) : LdAt (some kd) (.ptr (H.length + j) 0) ⟨hp H n b M,rw⟩ L:=l_ptrC ((hp_own hlt j).trans hM) hv.can hv.len h
theorem l_ownC {kd j : Nat} {cs vs : List AV} (hlt : n < H.length) (hM : M[j]? = some (.cells cs)) (hc : canonL cs = vs) (hl : cs.length = kd) (h : L (.agg vs)) : LdAt (some kd) (.ptr (H.length + j) 0) ⟨hp H n b M,rw⟩ L:=l_ptrC ((hp_own hlt j).trans hM) hc hl h
theorem l_own0 {j off : Nat} {cs : List AV} {u : AV} (hlt : n < H.length) (hM : M[j]? = some (.cells cs)) (hu : cs[off]? = some u) (h : L u) : LdAt none (.ptr (H.length + j) off) ⟨hp H n b M,rw⟩ L:=l_ptr0 ((hp_own hlt j).trans hM) hu h
theorem l_n0 {off : Nat} {cs : List AV} {u : AV} (hlt : n < H.length) (hb : b = .cells cs) (hu : cs[off]? = some u) (h : L u) : LdAt none (.ptr n off) ⟨hp H n b M,rw⟩ L:=l_ptr0 ((hp_get hlt).trans (by rw [hb])) hu h
variable {S : St}
theorem l_refR {kd : Nat} {u : List AV} (hu : Row kd u) (h : L (.agg u)) : LdAt (some kd) (.ref u) S L:=l_refS (by rw [hu.len]; exact Nat.le_refl _) (List.take_of_length_le (by rw [hu.len]; exact Nat.le_refl _)) h
theorem ls_1 {kd : Nat} {u : List AV} (hu : Row kd u) (h : L (.list kd .full [u])) : LsAt kd [.agg u] L:=⟨_,hu.rows1,h⟩
theorem ls_2 {kd : Nat} {u v : List AV} (hu : Row kd u) (hv : Row kd v) (h : L (.list kd .full [u,v])) : LsAt kd [.agg u,.agg v] L:=⟨_,hu.rows2 hv,h⟩
theorem ls_c {sz : Nat} {vs : List AV} {rows : List (List AV)} (hr : rowsOf sz vs = some rows) (h : L (.list sz .full rows)) : LsAt sz vs L:=⟨_,hr,h⟩
end
theorem id_stown {kd j off : Nat} {v : AV} {K : St → Prop} (h : StAt b0 kd (.ptr (H.length + j) off) v ⟨hp H n b M,rw⟩ K) : StAt b0 kd (.ptr (H.length + j) off) v ⟨hp H n b M,rw⟩ K:=h
theorem id_stn {kd : Nat} (off : Nat) {v : AV} {K : St → Prop} (h : StAt b0 kd (.ptr n off) v ⟨hp H n b M,rw⟩ K) : StAt b0 kd (.ptr n off) v ⟨hp H n b M,rw⟩ K:=h
theorem id_lown {m j : Nat} {L : AV → Prop} (h : LdAt (some m) (.ptr (H.length + j) 0) ⟨hp H n b M,rw⟩ L) : LdAt (some m) (.ptr (H.length + j) 0) ⟨hp H n b M,rw⟩ L:=h
theorem id_lown0 {j off : Nat} {L : AV → Prop} (h : LdAt none (.ptr (H.length + j) off) ⟨hp H n b M,rw⟩ L) : LdAt none (.ptr (H.length + j) off) ⟨hp H n b M,rw⟩ L:=h
theorem id_ln0 {off : Nat} {L : AV → Prop} (h : LdAt none (.ptr n off) ⟨hp H n b M,rw⟩ L) : LdAt none (.ptr n off) ⟨hp H n b M,rw⟩ L:=h
section
variable {e : Env} {re : List Nat} {H0 : List Blk}
theorem rc_end : recheck [] re e H0 base = true:=rfl
theorem rc_skip {it : Item} (h : re.contains it.ix = false) (hr : recheck prev re e H0 base = true) : recheck (it :: prev) re e H0 base = true:=by
 simp only [recheck,List.all_cons,h,Bool.not_false,Bool.true_or,Bool.true_and] at hr ⊢
 exact hr
theorem rc_keep {dd : Nat} {o : QOp} {v : AV} (hw : wanted g (eget e) = some true) (hv : qval o (eget e) H0 base = some v) (hd : eget e dd = some v) (hr : recheck prev re e H0 base = true) : recheck (⟨ix,some dd,g,.q o⟩ :: prev) re e H0 base = true:=by
 simp only [recheck,List.all_cons] at hr ⊢
 rw [hr]
 simp only [hw,hv,hd,beq_self,Bool.or_true,Bool.and_true]
theorem rc_off {dd : Nat} {o : QOp} (hw : wanted g (eget e) = some false) (hr : recheck prev re e H0 base = true) : recheck (⟨ix,some dd,g,.q o⟩ :: prev) re e H0 base = true:=by
 simp only [recheck,List.all_cons] at hr ⊢
 rw [hr]
 simp only [hw,Bool.or_true,Bool.and_true]
theorem rc_load {dd : Nat} {kd : Option Nat} {x : Opd} {p v : AV} {rw : List Nat} (hw : wanted g (eget e) = some true) (hx : x.val (eget e) = some p) (hd : eget e dd = some v) (h : LdAt kd p ⟨H0,rw⟩ (fun u => u = v)) (hr : recheck prev re e H0 base = true) : recheck (⟨ix,some dd,g,.q (.load kd x)⟩ :: prev) re e H0 base = true:=by
 obtain ⟨u,hu,rfl⟩:=h
 exact rc_keep hw (by simp only [qval,hx]; exact hu) hd hr
theorem rc_lookup {dd : Nat} {zero : AV} {ok : Bool} {x y : Opd} {p q v : AV} {rw : List Nat} (hw : wanted g (eget e) = some true) (hx : x.val (eget e) = some p) (hy : y.val (eget e) = some q) (hd : eget e dd = some v) (h : LkAt zero ok p q ⟨H0,rw⟩ (fun u => u = v)) (hr : recheck prev re e H0 base = true) : recheck (⟨ix,some dd,g,.q (.lookup zero ok x y)⟩ :: prev) re e H0 base = true:=by
 obtain ⟨u,hu,rfl⟩:=h
 refine rc_keep hw ?_ hd hr
 simp only [qval,hx,hy]
 cases p <;> cases q <;> first | exact hu | (exact absurd hu (by simp))
theorem rc_allocN {dd j L q : Nat} {zs : List AV} (hlt : n < H.length) (hw : wanted g (eget e) = some true) (hq : L + j = q) (hM : M[q]? = some (.cells zs)) (hd : eget e dd = some (.ptr (H.length + q) 0)) (hr : recheck prev re e (hp H n b M) (H.length + L) = true) :
  recheck (⟨ix,some dd,g,.q (.alloc j zs)⟩ :: prev) re e (hp H n b M) (H.length + L) = true:=by
 subst hq
 refine rc_keep hw ?_ hd hr
 have h2:=(hp_own (b:=b) (L:=M) hlt (L + j)).trans hM
 have hb : AV.beqL zs zs = true:=by
  have:=beq_self (.agg zs)
  simpa only [AV.beq] using this
 simp only [qval,Nat.add_assoc,h2,hb,if_true]
theorem id_rcload {dd : Nat} {kd : Option Nat} {x : Opd} (h : recheck (⟨ix,some dd,g,.q (.load kd x)⟩ :: prev) re e H0 base = true) : recheck (⟨ix,some dd,g,.q (.load kd x)⟩ :: prev) re e H0 base = true:=h
theorem id_rclk {dd : Nat} {zero : AV} {ok : Bool} {x y : Opd} (h : recheck (⟨ix,some dd,g,.q (.lookup zero ok x y)⟩ :: prev) re e H0 base = true) : recheck (⟨ix,some dd,g,.q (.lookup zero ok x y)⟩ :: prev) re e H0 base = true:=h
theorem id_rcalloc {dd j : Nat} {zs : List AV} (h : recheck (⟨ix,some dd,g,.q (.alloc j zs)⟩ :: prev) re e H0 base = true) : recheck (⟨ix,some dd,g,.q (.alloc j zs)⟩ :: prev) re e H0 base = true:=h
end
theorem at_bk0 {x : Blk} {J : List Blk} : ((J ++ [x]))[J.length]? = some x:=by simp
theorem set_bk0 {x y : Blk} {J : List Blk} : ((J ++ [x])).set (J.length) y = (J ++ [y]):=by simp
theorem at_bl0 {x y : Blk} {J : List Blk} : ((J ++ [x] ++ [y]))[J.length]? = some x:=by simp
theorem set_bl0 {x y z : Blk} {J : List Blk} : ((J ++ [x] ++ [y])).set (J.length) z = (J ++ [z] ++ [y]):=by simp
theorem at_bk1 {a x : Blk} {J : List Blk} : (a :: (J ++ [x]))[J.length + 1]? = some x:=by simp
theorem set_bk1 {a x y : Blk} {J : List Blk} : (a :: (J ++ [x])).set (J.length + 1) y = a :: (J ++ [y]):=by simp
theorem at_bl1 {a x y : Blk} {J : List Blk} : (a :: (J ++ [x] ++ [y]))[J.length + 1]? = some x:=by simp
theorem set_bl1 {a x y z : Blk} {J : List Blk} : (a :: (J ++ [x] ++ [y])).set (J.length + 1) z = a :: (J ++ [z] ++ [y]):=by simp
theorem at_bk2 {a b x : Blk} {J : List Blk} : (a :: b :: (J ++ [x]))[J.length + 1 + 1]? = some x:=by simp
theorem set_bk2 {a b x y : Blk} {J : List Blk} : (a :: b :: (J ++ [x])).set (J.length + 1 + 1) y = a :: b :: (J ++ [y]):=by simp
theorem at_bl2 {a b x y : Blk} {J : List Blk} : (a :: b :: (J ++ [x] ++ [y]))[J.length + 1 + 1]? = some x:=by simp
theorem set_bl2 {a b x y z : Blk} {J : List Blk} : (a :: b :: (J ++ [x] ++ [y])).set (J.length + 1 + 1) z = a :: b :: (J ++ [z] ++ [y]):=by simp
theorem at_bk3 {a b c x : Blk} {J : List Blk} : (a :: b :: c :: (J ++ [x]))[J.length + 1 + 1 + 1]? = some x:=by simp
theorem set_bk3 {a b c x y : Blk} {J : List Blk} : (a :: b :: c :: (J ++ [x])).set (J.length + 1 + 1 + 1) y = a :: b :: c :: (J ++ [y]):=by simp
theorem at_bl3 {a b c x y : Blk} {J : List Blk} : (a :: b :: c :: (J ++ [x] ++ [y]))[J.length + 1 + 1 + 1]? = some x:=by simp
theorem set_bl3 {a b c x y z : Blk} {J : List Blk} : (a :: b :: c :: (J ++ [x] ++ [y])).set (J.length + 1 + 1 + 1) z = a :: b :: c :: (J ++ [z] ++ [y]):=by simp
theorem at_bk4 {a b c d x : Blk} {J : List Blk} : (a :: b :: c :: d :: (J ++ [x]))[J.length + 1 + 1 + 1 + 1]? = some x:=by simp
theorem set_bk4 {a b c d x y : Blk} {J : List Blk} : (a :: b :: c :: d :: (J ++ [x])).set (J.length + 1 + 1 + 1 + 1) y = a :: b :: c :: d :: (J ++ [y]):=by simp
theorem at_bl4 {a b c d x y : Blk} {J : List Blk} : (a :: b :: c :: d :: (J ++ [x] ++ [y]))[J.length + 1 + 1 + 1 + 1]? = some x:=by simp
theorem set_bl4 {a b c d x y z : Blk} {J : List Blk} : (a :: b :: c :: d :: (J ++ [x] ++ [y])).set (J.length + 1 + 1 + 1 + 1) z = a :: b :: c :: d :: (J ++ [z] ++ [y]):=by simp
section
variable {L : AV → Prop} {K : St → Prop} {S : St} {e : Env} {re : List Nat} {H0 : List Blk}
theorem zar (hm : Mono pr) {al : List (List AV)} {q : Nat} (h : In pr F b0 Q (H.length + q) [] items kp k e ⟨hp H n b M',rw⟩) (hlt : n < H.length:=by assumption) (hM : M ++ al.map .cells = M':=by (simp only [List.map_cons,List.map_nil,List.nil_append,List.cons_append,List.append_nil]; rfl)) (hL : M.length = q:=by (first | (simp only [List.length_cons,List.length_nil,Nat.reduceAdd,Nat.zero_add]; rfl) | rfl)) : At pr F b0 Q (.region al items kp) k e ⟨hp H n b M,rw⟩:=at_regN hm hlt hM hL h
theorem zaa {j q q' : Nat} {zs : List AV} (h : In pr F b0 Q (H.length + q') (⟨ix,d,g,.q (.alloc j zs)⟩ :: prev) items kp k (eput e d (.ptr (H.length + q) 0)) ⟨hp H n b M,rw⟩) (hlt : n < H.length:=by assumption) (hw : wanted g (eget e) = some true:=by rfl) (hq : q' + j = q:=by (simp only [Nat.reduceAdd,Nat.add_zero]; try rfl)) (hM : M[q]? = some (.cells zs):=by (first | rfl | assumption | exact at_bk0 | exact at_bk1 | exact at_bk2 | exact at_bk3 | exact at_bk4 | exact at_bl0 | exact at_bl1 | exact at_bl2 | exact at_bl3 | exact at_bl4)) :
  In pr F b0 Q (H.length + q') prev (⟨ix,d,g,.q (.alloc j zs)⟩ :: items) kp k e ⟨hp H n b M,rw⟩:=in_allocN hlt hw hq hM h
theorem zlr {kd : Nat} {u : List AV} (h : L (.agg u)) (hu : Row kd u:=by (first | assumption | with_reducible exact row_ex _ | with_reducible exact row_tok _ | with_reducible exact row_ty _ | with_reducible exact row_sm _ | with_reducible exact row_par _ | with_reducible exact row_fld _ | with_reducible exact row_mth _ | with_reducible exact row_ctr _ | with_reducible exact row_cls _ | with_reducible exact row_prg _ | with_reducible exact row_nm _)) : LdAt (some kd) (.ref u) S L:=l_refR hu h
theorem zls {kd : Nat} {u v : List AV} (h : L (.agg v)) (hl : kd ≤ u.length:=by first | assumption | exact Nat.le_of_ble_eq_true rfl) (hv : u.take kd = v:=by rfl) : LdAt (some kd) (.ref u) S L:=l_refS hl hv h
theorem zlo {kd j : Nat} {vs : List AV} (h : L (.agg vs)) (hlt : n < H.length:=by assumption) (hM : M[j]? = some (.cells vs):=by (first | rfl | assumption | exact at_bk0 | exact at_bk1 | exact at_bk2 | exact at_bk3 | exact at_bk4 | exact at_bl0 | exact at_bl1 | exact at_bl2 | exact at_bl3 | exact at_bl4)) (hv : Row kd vs:=by (first | assumption | with_reducible exact row_ex _ | with_reducible exact row_tok _ | with_reducible exact row_ty _ | with_reducible exact row_sm _ | with_reducible exact row_par _ | with_reducible exact row_fld _ | with_reducible exact row_mth _ | with_reducible exact row_ctr _ | with_reducible exact row_cls _ | with_reducible exact row_prg _ | with_reducible exact row_nm _)) : LdAt (some kd) (.ptr (H.length + j) 0) ⟨hp H n b M,rw⟩ L:=l_ownR hlt hM hv h
theorem zlo2 {kd j : Nat} {cs vs : List AV} (h : L (.agg vs)) (hlt : n < H.length:=by assumption) (hM : M[j]? = some (.cells cs):=by (first | rfl | assumption | exact at_bk0 | exact at_bk1 | exact at_bk2 | exact at_bk3 | exact at_bk4 | exact at_bl0 | exact at_bl1 | exact at_bl2 | exact at_bl3 | exact at_bl4)) (hc : canonL cs = vs:=by assumption) (hl : cs.length = kd:=by assumption) : LdAt (some kd) (.ptr (H.length + j) 0) ⟨hp H n b M,rw⟩ L:=l_ownC hlt hM hc hl h
theorem zlo3 {kd j : Nat} {cs vs : List AV} (h : L (.agg vs)) (hlt : n < H.length:=by assumption) (hM : M[j]? = some (.cells cs):=by (first | rfl | assumption | exact at_bk0 | exact at_bk1 | exact at_bk2 | exact at_bk3 | exact at_bk4 | exact at_bl0 | exact at_bl1 | exact at_bl2 | exact at_bl3 | exact at_bl4)) (hc : canonL cs = vs:=by rfl) (hl : cs.length = kd:=by rfl) : LdAt (some kd) (.ptr (H.length + j) 0) ⟨hp H n b M,rw⟩ L:=l_ownC hlt hM hc hl h
theorem zlo0 {j off : Nat} {cs : List AV} {u : AV} (h : L u) (hlt : n < H.length:=by assumption) (hM : M[j]? = some (.cells cs):=by (first | rfl | assumption | exact at_bk0 | exact at_bk1 | exact at_bk2 | exact at_bk3 | exact at_bk4 | exact at_bl0 | exact at_bl1 | exact at_bl2 | exact at_bl3 | exact at_bl4)) (hu : cs[off]? = some u:=by rfl) : LdAt none (.ptr (H.length + j) off) ⟨hp H n b M,rw⟩ L:=l_own0 hlt hM hu h
theorem zln0 {off : Nat} {cs : List AV} {u : AV} (h : L u) (hlt : n < H.length:=by assumption) (hb : b = .cells cs:=by rfl) (hu : cs[off]? = some u:=by rfl) : LdAt none (.ptr n off) ⟨hp H n b M,rw⟩ L:=l_n0 hlt hb hu h
theorem zlp0 {m off : Nat} {cs : List AV} {u : AV} (h : L u) (hH : S.heap[m]? = some (.cells cs):=by assumption) (hu : cs[off]? = some u:=by rfl) : LdAt none (.ptr m off) S L:=l_ptr0 hH hu h
theorem zlpc {m kd : Nat} {cs vs : List AV} (h : L (.agg vs)) (hH : S.heap[m]? = some (.cells cs):=by assumption) (hc : canonL cs = vs:=by rfl) (hl : cs.length = kd:=by rfl) : LdAt (some kd) (.ptr m 0) S L:=l_ptrC hH hc hl h
theorem ze1 {kd : Nat} {u : List AV} (h : L (.list kd .full [u])) (hu : Row kd u:=by (first | assumption | with_reducible exact row_ex _ | with_reducible exact row_tok _ | with_reducible exact row_ty _ | with_reducible exact row_sm _ | with_reducible exact row_par _ | with_reducible exact row_fld _ | with_reducible exact row_mth _ | with_reducible exact row_ctr _ | with_reducible exact row_cls _ | with_reducible exact row_prg _ | with_reducible exact row_nm _)) : LsAt kd [.agg u] L:=ls_1 hu h
theorem ze2 {kd : Nat} {u v : List AV} (h : L (.list kd .full [u,v])) (hu : Row kd u:=by (first | assumption | with_reducible exact row_ex _ | with_reducible exact row_tok _ | with_reducible exact row_ty _ | with_reducible exact row_sm _ | with_reducible exact row_par _ | with_reducible exact row_fld _ | with_reducible exact row_mth _ | with_reducible exact row_ctr _ | with_reducible exact row_cls _ | with_reducible exact row_prg _ | with_reducible exact row_nm _)) (hv : Row kd v:=by (first | assumption | with_reducible exact row_ex _ | with_reducible exact row_tok _ | with_reducible exact row_ty _ | with_reducible exact row_sm _ | with_reducible exact row_par _ | with_reducible exact row_fld _ | with_reducible exact row_mth _ | with_reducible exact row_ctr _ | with_reducible exact row_cls _ | with_reducible exact row_prg _ | with_reducible exact row_nm _)) : LsAt kd [.agg u,.agg v] L:=ls_2 hu hv h
theorem zsR {kd j : Nat} {vs cs : List AV} (h : K ⟨hp H n b M',rw⟩) (hlt : n < H.length:=by assumption) (hM : M[j]? = some (.cells cs):=by (first | rfl | assumption | exact at_bk0 | exact at_bk1 | exact at_bk2 | exact at_bk3 | exact at_bk4 | exact at_bl0 | exact at_bl1 | exact at_bl2 | exact at_bl3 | exact at_bl4)) (hv : Row kd vs:=by (first | assumption | with_reducible exact row_ex _ | with_reducible exact row_tok _ | with_reducible exact row_ty _ | with_reducible exact row_sm _ | with_reducible exact row_par _ | with_reducible exact row_fld _ | with_reducible exact row_mth _ | with_reducible exact row_ctr _ | with_reducible exact row_cls _ | with_reducible exact row_prg _ | with_reducible exact row_nm _)) (hc : cs.length = kd:=by first | rfl | exact Row.len (by (first | assumption | with_reducible exact row_ex _ | with_reducible exact row_tok _ | with_reducible exact row_ty _ | with_reducible exact row_sm _ | with_reducible exact row_par _ | with_reducible exact row_fld _ | with_reducible exact row_mth _ | with_reducible exact row_ctr _ | with_reducible exact row_cls _ | with_reducible exact row_prg _ | with_reducible exact row_nm _)) | assumption) (hs : M.set j (.cells vs) = M':=by (first | exact set_bk0 | exact set_bk1 | exact set_bk2 | exact set_bk3 | exact set_bk4 | exact set_bl0 | exact set_bl1 | exact set_bl2 | exact set_bl3 | exact set_bl4 | (simp only [List.set_cons_zero,List.set_cons_succ]; rfl))) :
  StAt b0 kd (.ptr (H.length + j) 0) (.agg vs) ⟨hp H n b M,rw⟩ K:=s_ownR hlt hM hc hv hs h
theorem zsA {kd j : Nat} {vs cs : List AV} (h : K ⟨hp H n b M',rw⟩) (hlt : n < H.length:=by assumption) (hM : M[j]? = some (.cells cs):=by (first | rfl | assumption | exact at_bk0 | exact at_bk1 | exact at_bk2 | exact at_bk3 | exact at_bk4 | exact at_bl0 | exact at_bl1 | exact at_bl2 | exact at_bl3 | exact at_bl4)) (hv : vs.length = kd:=by rfl) (hc : cs.length = kd:=by first | rfl | exact Row.len (by (first | assumption | with_reducible exact row_ex _ | with_reducible exact row_tok _ | with_reducible exact row_ty _ | with_reducible exact row_sm _ | with_reducible exact row_par _ | with_reducible exact row_fld _ | with_reducible exact row_mth _ | with_reducible exact row_ctr _ | with_reducible exact row_cls _ | with_reducible exact row_prg _ | with_reducible exact row_nm _)) | assumption) (hs : M.set j (.cells vs) = M':=by (first | exact set_bk0 | exact set_bk1 | exact set_bk2 | exact set_bk3 | exact set_bk4 | exact set_bl0 | exact set_bl1 | exact set_bl2 | exact set_bl3 | exact set_bl4 | (simp only [List.set_cons_zero,List.set_cons_succ]; rfl))) (hb : b0 ≤ H.length + j ∨ Ai.below (H.length + j + 1) (.agg vs) = true:=by first | exact .inl (Nat.le_add_right _ _) | exact .inr rfl | exact .inl (Nat.le_refl _) | exact .inr (LT.below _ _) | exact .inr (Row.below (by (first | assumption | with_reducible exact row_ex _ | with_reducible exact row_tok _ | with_reducible exact row_ty _ | with_reducible exact row_sm _ | with_reducible exact row_par _ | with_reducible exact row_fld _ | with_reducible exact row_mth _ | with_reducible exact row_ctr _ | with_reducible exact row_cls _ | with_reducible exact row_prg _ | with_reducible exact row_nm _)) _) | (left; omega)) :
  StAt b0 kd (.ptr (H.length + j) 0) (.agg vs) ⟨hp H n b M,rw⟩ K:=s_ownA hlt hb hM hc hv hs h
theorem zsO {kd j off : Nat} {v : AV} {cs cs' : List AV} (h : K ⟨hp H n b M',rw⟩) (hlt : n < H.length:=by assumption) (hM : M[j]? = some (.cells cs):=by (first | rfl | assumption | exact at_bk0 | exact at_bk1 | exact at_bk2 | exact at_bk3 | exact at_bk4 | exact at_bl0 | exact at_bl1 | exact at_bl2 | exact at_bl3 | exact at_bl4)) (hv : v.cells.length = kd ∧ v.okv = true ∧ off + kd ≤ cs.length:=by first | exact ⟨rfl,rfl,Nat.le_of_ble_eq_true rfl⟩ | exact ⟨by rw [LT.one]; rfl,LT.okv _,Nat.le_of_ble_eq_true rfl⟩ | exact ⟨Row.len (by (first | assumption | with_reducible exact row_ex _ | with_reducible exact row_tok _ | with_reducible exact row_ty _ | with_reducible exact row_sm _ | with_reducible exact row_par _ | with_reducible exact row_fld _ | with_reducible exact row_mth _ | with_reducible exact row_ctr _ | with_reducible exact row_cls _ | with_reducible exact row_prg _ | with_reducible exact row_nm _)),rfl,Nat.le_of_ble_eq_true rfl⟩)
  (hc : overlay cs off v.cells = cs':=by (simp only [overlay,cells_agg,cells_int,cells_str,cells_bool,cells_list,cells_ptr,LT.one,len_tyRow,len_exRow,len_smRow,List.take_succ_cons,List.take_zero,List.drop_succ_cons,List.drop_zero,List.nil_append,List.cons_append,List.length_cons,List.length_nil,Nat.reduceAdd,Nat.zero_add,Nat.add_zero]; rfl)) (hs : M.set j (.cells cs') = M':=by (first | exact set_bk0 | exact set_bk1 | exact set_bk2 | exact set_bk3 | exact set_bk4 | exact set_bl0 | exact set_bl1 | exact set_bl2 | exact set_bl3 | exact set_bl4 | (simp only [List.set_cons_zero,List.set_cons_succ]; rfl))) (hb : b0 ≤ H.length + j ∨ Ai.below (H.length + j + 1) v = true:=by first | exact .inl (Nat.le_add_right _ _) | exact .inr rfl | exact .inl (Nat.le_refl _) | exact .inr (LT.below _ _) | exact .inr (Row.below (by (first | assumption | with_reducible exact row_ex _ | with_reducible exact row_tok _ | with_reducible exact row_ty _ | with_reducible exact row_sm _ | with_reducible exact row_par _ | with_reducible exact row_fld _ | with_reducible exact row_mth _ | with_reducible exact row_ctr _ | with_reducible exact row_cls _ | with_reducible exact row_prg _ | with_reducible exact row_nm _)) _) | (left; omega)) : StAt b0 kd (.ptr (H.length + j) off) v ⟨hp H n b M,rw⟩ K:=s_own hlt hb hM hv hc hs h
end
section
variable {e : Env} {re : List Nat} {H0 : List Blk}
theorem zrk {X : Prop} (hx : X) (h : recheck prev re e H0 base = true:=by first | exact rec_nil | (repeat' first | with_reducible exact rc_end | refine rc_skip rfl ?_ | (refine id_rcload ?_; first | refine rc_off rfl ?_ | refine rc_load (rw:=[]) rfl rfl rfl ?_ ?_) | (refine id_rcalloc ?_; refine rc_allocN (by assumption) rfl (by (simp only [Nat.reduceAdd,Nat.add_zero]; try rfl)) (by (first | rfl | assumption | exact at_bk0 | exact at_bk1 | exact at_bk2 | exact at_bk3 | exact at_bk4 | exact at_bl0 | exact at_bl1 | exact at_bl2 | exact at_bl3 | exact at_bl4)) rfl ?_) | (refine id_rclk ?_; first | refine rc_off rfl ?_ | refine rc_lookup (rw:=[]) rfl rfl rfl rfl ?_ ?_) | refine rc_off rfl ?_ | refine rc_keep rfl rfl rfl ?_ | (refine l_ref0 rfl ?_)      | (refine id_lref ?_; first | refine zlr ?_ | refine zls ?_)      | (refine id_lown ?_; first | refine zlo ?_ | refine zlo2 ?_ | refine zlo3 ?_)      | (refine id_lown0 ?_; first | refine zlo0 ?_ | refine zlm0 ?_)      | (refine id_ln0 ?_; refine zln0 ?_)      | (refine id_lptr0 ?_; first | refine zlp0 ?_ | refine zlf0 ?_)      | (refine id_lptr ?_; first | refine zlpc ?_ | refine zlfc ?_) | rfl)) : recheck prev re e H0 base = true ∧ X:=⟨h,hx⟩
end
theorem fin_cell {t j : Nat} {kd : Option Nat} {cs : List AV} {v : AV} {Q : Res → St → Prop} (hlt : n < H.length) (ht : eget e t = some (.ptr (H.length + j) 0)) (hM : M[j]? = some (.cells cs)) (hv : aload kd (.ptr 0 0) [.cells cs] = some v) (hb : Ai.below H.length v = true)
  (h : Q (.ret v) ⟨hp H n b [],rw⟩) : fin [.cell t kd] H.length Q .ret e ⟨hp H n b M,rw⟩:=by
 refine fin_ret ?_ hb (hp_take hlt) h
 have h2:=(hp_own (b:=b) (L:=M) hlt j).trans hM
 have h3 : aload kd (.ptr (H.length + j) 0) (hp H n b M) = some v:=by
  simp only [aload,h2]
  simp only [aload,List.getElem?_cons_zero] at hv
  exact hv
 simp only [rvals,ht,h3]
end Go.Proofs.YtmeakjgbjldkdaaGreat.Ai
namespace Go.Proofs.YtmeakjgbjldkdaaGreat.Ai
open Go
variable {b0 : Nat} {S : St}
theorem id_stag0 {kd q : Nat} {cs : List AV} {K : St → Prop} (h : StAt b0 kd (.ptr q 0) (.agg cs) S K) : StAt b0 kd (.ptr q 0) (.agg cs) S K:=h
variable {H : List Blk} {rw : List Nat} {n : Nat} {b : Blk} {M M' : List Blk} {K : St → Prop}
theorem zsT {kd j off : Nat} {vs cs cs' : List AV} (h : K ⟨hp H n b M',rw⟩) (hlt : n < H.length:=by assumption) (hM : M[j]? = some (.cells cs):=by (first | rfl | assumption | exact at_bk0 | exact at_bk1 | exact at_bk2 | exact at_bk3 | exact at_bk4 | exact at_bl0 | exact at_bl1 | exact at_bl2 | exact at_bl3 | exact at_bl4)) (hv : Row kd vs:=by (first | assumption | with_reducible exact row_ex _ | with_reducible exact row_tok _ | with_reducible exact row_ty _ | with_reducible exact row_sm _ | with_reducible exact row_par _ | with_reducible exact row_fld _ | with_reducible exact row_mth _ | with_reducible exact row_ctr _ | with_reducible exact row_cls _ | with_reducible exact row_prg _ | with_reducible exact row_nm _)) (ho : off + kd ≤ cs.length:=by exact Nat.le_of_ble_eq_true rfl)
  (hc : overlay cs off vs = cs':=by (simp only [overlay,cells_agg,cells_int,cells_str,cells_bool,cells_list,cells_ptr,LT.one,len_tyRow,len_exRow,len_smRow,List.take_succ_cons,List.take_zero,List.drop_succ_cons,List.drop_zero,List.nil_append,List.cons_append,List.length_cons,List.length_nil,Nat.reduceAdd,Nat.zero_add,Nat.add_zero]; rfl)) (hs : M.set j (.cells cs') = M':=by (first | exact set_bk0 | exact set_bk1 | exact set_bk2 | exact set_bk3 | exact set_bk4 | exact set_bl0 | exact set_bl1 | exact set_bl2 | exact set_bl3 | exact set_bl4 | (simp only [List.set_cons_zero,List.set_cons_succ]; rfl))) : StAt b0 kd (.ptr (H.length + j) off) (.agg vs) ⟨hp H n b M,rw⟩ K:=s_own hlt (.inr (hv.below _)) hM ⟨hv.len,rfl,ho⟩ hc hs h
theorem map_canon_ty (t : Ty) : List.map canon1 (tyRow t) = tyRow t:=(row_ty t).can
theorem hG {Q : Prop} (h : Q:=by (repeat' (first | (refine in_id ?_; first  | (refine id_mov ?_; first | refine g_mov rfl rfl ?_ | refine in_no rfl ?_)  | (refine id_bin ?_; first    | (refine g_bin rfl rfl rfl ?_; first      | (refine id_bnS .add ?_; first | refine b_cat (by omega) ?_ | refine b_str rfl ?_)      | (refine id_bn .add ?_; first | refine b_int rfl (wrap64 (by omega) (by omega)) ?_ | refine b_int rfl rfl ?_)      | (refine id_bn .sub ?_; first | refine b_int rfl (wrap64 (by omega) (by omega)) ?_ | refine b_int rfl rfl ?_)      | refine b_true rfl (by first | with_reducible rfl | assumption | (simp only [decide_eq_true_eq,beq_iff_eq,bne_iff_ne,ne_eq,Bool.not_eq_true',beq_eq_false_iff_ne,List.length_map]; first | done | omega | assumption)) ?_      | refine b_false rfl (by first | with_reducible rfl | assumption | (simp only [decide_eq_false_iff_not,beq_eq_false_iff_ne,bne_eq_false_iff_eq,ne_eq,Bool.not_eq_false',beq_iff_eq,List.length_map]; first | done | omega | assumption)) ?_      | (refine b_two rfl (fun hq => ?_) (fun hq => ?_) <;> (try simp only [decide_eq_true_eq,decide_eq_false_iff_not,beq_iff_eq,beq_eq_false_iff_ne,bne_iff_ne,ne_eq,bne_eq_false_iff_eq,Bool.not_eq_true',Int.not_lt,Int.not_le,Decidable.not_not,List.length_map] at hq))      | refine b_int rfl rfl ?_)    | refine in_no rfl ?_)  | (refine id_load ?_; first    | (refine g_load rfl rfl ?_; first      | (refine l_ref0 rfl ?_)      | (refine id_lref ?_; first | refine zlr ?_ | refine zls ?_)      | (refine id_lown ?_; first | refine zlo ?_ | refine zlo2 ?_ | refine zlo3 ?_)      | (refine id_lown0 ?_; first | refine zlo0 ?_ | refine zlm0 ?_)      | (refine id_ln0 ?_; refine zln0 ?_)      | (refine id_lptr0 ?_; first | refine zlp0 ?_ | refine zlf0 ?_)      | (refine id_lptr ?_; first | refine zlpc ?_ | refine zlfc ?_))    | refine in_no rfl ?_)  | (refine id_alloc ?_; refine zaa ?_)  | (refine id_ixa ?_; first    | (refine g_ixa rfl rfl rfl ?_; first      | (refine i_tok (by omega) (by omega) ?_; intro tk htk htk2)      | refine i_list (by assumption) (by omega) ?_      | refine i_list rfl rfl ?_      | refine i_arr (by omega) (by omega) ?_)    | refine in_no rfl ?_)  | (refine id_ix ?_; first    | refine in_byte2 rfl rfl rfl (by with_reducible rfl) (by assumption) ?_    | refine in_byte (by assumption) rfl rfl rfl (by omega) ?_    | refine in_no rfl ?_)  | (refine id_list ?_; first    | (refine g_list rfl rfl ?_; first      | (refine id_ls1 ?_; first | refine ze1 ?_ | refine ls_c rfl ?_)      | (refine id_ls2 ?_; first | refine ze2 ?_ | refine ls_c rfl ?_)      | refine ls_c rfl ?_)    | refine in_no rfl ?_)  | (refine id_cut ?_; first    | refine in_cut rfl rfl rfl rfl (by simp only [Option.getD_some,Option.getD_none]; omega) rfl ?_    | refine in_no rfl ?_)  | (refine id_len ?_; refine g_lenlst rfl rfl ?_)  | (refine id_q ?_; first | refine g_q rfl rfl ?_ | refine in_no rfl ?_)  | (refine id_store ?_; first    | (refine g_store rfl rfl rfl ?_; first      | (refine id_stn (0 + 1) ?_; refine s_rI hlt (by assumption) (by omega) ?_; intro rc _ _ _ _ _ _; refine zrk ?_)      | (refine id_stn (0 + 3) ?_; refine s_rDeep hlt (by assumption) (by omega) ?_; intro rc _ _ _ _ _ _; refine zrk ?_)      | (refine id_stown ?_; first        | (refine id_stag0 ?_; first          | (refine zsR ?_; refine zrk ?_)          | (refine zsA ?_; refine zrk ?_)) | (refine id_stagg ?_; refine zsT ?_; refine zrk ?_)        | (refine zsO ?_; refine zrk ?_)))    | refine in_no_l rfl (by first | exact rec_nil | rfl) ?_)  | (refine id_call ?_; first    | (refine g_call rfl rfl rfl ?_; first      | (refine id_cl2 90 (.int .i64 0) ?_; (refine c_rqb (cis0 _) hlt (by assumption) ?_ ?_ <;> intro hP <;> obtain ⟨_,_⟩:=hP <;> refine zrk ?_)) | (refine id_cl2 90 (.int .i64 1) ?_; (refine c_rqb (cis1 _) hlt (by assumption) ?_ ?_ <;> intro hP <;> obtain ⟨_,_⟩:=hP <;> refine zrk ?_)) | (refine id_cl2 90 (.int .i64 2) ?_; (refine c_rqb (cis2 _) hlt (by assumption) ?_ ?_ <;> intro hP <;> obtain ⟨_,_⟩:=hP <;> refine zrk ?_))      | (refine id_cl 134 ?_; refine c_rq cpl hlt (by assumption) ?_; intro _ _; refine zrk ?_)      | (refine id_cl 136 ?_; (refine c_rcb (ctk _) hlt (by assumption) (by omega) (by omega) ?_ ?_ <;> intro rc rwc hR' _ _ _ _ _ _ hP <;> replace hR:=hR.trans hR' <;> (try replace hRL:=hRL.trans hR') <;> obtain ⟨_,_⟩:=hP <;> refine zrk ?_)) | (refine id_cl 140 ?_; (refine c_rcb (cen) hlt (by assumption) (by omega) (by omega) ?_ ?_ <;> intro rc rwc hR' _ _ _ _ _ _ hP <;> replace hR:=hR.trans hR' <;> (try replace hRL:=hRL.trans hR') <;> obtain ⟨_,_⟩:=hP <;> refine zrk ?_)) | (refine id_cl 93 ?_; (refine c_rc (cnd _) hlt (by assumption) (by omega) (by omega) ?_; intro _ rc rwc hR' _ _ _ _ _ _ hP; replace hR:=hR.trans hR'; (try replace hRL:=hRL.trans hR'); obtain ⟨_,_⟩:=hP; refine zrk ?_)) | (refine id_cl 95 ?_; (refine c_rc (cfl) hlt (by assumption) (by omega) (by omega) ?_; intro _ rc rwc hR' _ _ _ _ _ _ hP; replace hR:=hR.trans hR'; (try replace hRL:=hRL.trans hR'); obtain ⟨_,_⟩:=hP; refine zrk ?_))      | (refine c_det (by first | assumption | exact hk1 _ _ | exact hd1 _ | exact hd2 _ | exact hd3 _ | exact hd4 _ | exact hd5 _ | exact hd6 _) ?_; refine zrk ?_))    | refine in_no_l rfl (by first | exact rec_nil | rfl) ?_)  | (refine id_l ?_; refine in_no_l rfl (by first | exact rec_nil | rfl) ?_)  | (refine id_nil ?_; refine in_nil (by simp only [keep,List.filterMap_cons,List.filterMap_nil,args0,List.zipIdx_cons,List.zipIdx_nil,List.map_cons,List.map_nil,eput,eget,if_true,if_false,Nat.reduceEqDiff,reduceIte,Option.map_some,Option.map_none]; rfl) ?_)) | (refine at_id ?_; first  | refine at_seq hm ?_  | (refine id_region ?_; first | refine zar hm ?_ | refine at_region hm (List.append_nil _) rfl ?_)  | (refine id_cond ?_; first | refine at_true rfl ?_ | refine at_false rfl ?_)  | refine at_block ?_  | refine at_skip ?_  | refine at_ret ?_  | refine at_exit ?_) | (refine back_id ?_; first  | refine back_code ?_  | refine back_blk ?_  | refine back_ret_code ?_  | refine back_ret_blk ?_  | refine back_exit_code ?_  | refine back_exit_same ?_  | refine back_exit_other (by omega) ?_  | refine back_nil ?_))); all_goals (refine ob ?_; apply_rules (newGoals:=.nonDependentOnly) only [bx]; exact trivial)) : Q:=h
end Go.Proofs.YtmeakjgbjldkdaaGreat.Ai
namespace Go.Proofs.YtmeakjgbjldkdaaGreat.Ai
open Go
variable {pr : Prims} {F : Nat → Option IFn}
structure Rd where
 i : Int
 deep : Int
 code : Int
 at_ : Int
structure Src where
 toks : List Tok
 sz : Nat
 tag : Tag
 en : Int
 hsz : toks ≠ [] → sz = 3
 small : toks.length ≤ 6000
 txt : ∀ t ∈ toks,TokOk t
def blk (s : Src) (r : Rd) : Blk:=.cells [.list s.sz s.tag (s.toks.map Tok.row),.int .i64 r.i,.int .i64 s.en,.int .i64 r.deep,.int .i64 r.code,.int .i64 r.at_]
structure Rok (s : Src) (r : Rd) : Prop where
 lo : 0 ≤ r.i
 hi : r.i ≤ s.toks.length
 dlo : 0 ≤ r.deep
 dhi : r.deep ≤ 1000
structure LibR (pr : Prims) (F : Nat → Option IFn) : Prop extends LibL pr F where
 f90 : Has pr F 90 i90
 f93 : Has pr F 93 i93
 f95 : Has pr F 95 i95
 f134 : Has pr F 134 i134
 f135 : Has pr F 135 i135
 f136 : Has pr F 136 i136
 f140 : Has pr F 140 i140
def isF (s : Src) (r : Rd) (k : Nat) (x : Str) : Bool:=r.code == 0 && match s.toks[r.i.toNat + k]? with | some t => t.kind != 2 && t.text == x | none => false
theorem det_is (L : LibR pr F) {S : St} {n : Nat} {s : Src} {r : Rd} (hn : S.heap[n]? = some (blk s r)) (hr : Rok s r) (k : Nat) (hk : k ≤ 5) (x : Str) :
  Det pr F 90 [.ptr n 0,.int .i64 k,.str x] S (.ret (.bool (isF s r k x))) S:=by
 have hm:=L.hm
 refine Det.of hm (at_start hm L.f90.1 L.f90.2 rfl ?_)
 obtain ⟨H,rws⟩:=S
 obtain ⟨i,deep,code,at_⟩:=r
 obtain ⟨lo,hi,dlo,dhi⟩:=hr
 simp only [blk] at hn lo hi dlo dhi
 obtain ⟨j,rfl⟩:=Int.eq_ofNat_of_zero_le lo
 have small:=s.small
 unfold isF
 by_cases h1 : code = 0
 ·subst h1
  by_cases h2 : j + k < s.toks.length
  ·have e1 : s.toks[j + k]? = some s.toks[j + k]:=List.getElem?_eq_getElem h2
   have e2 : (s.toks.map Tok.row)[j + k]? = some (Tok.row s.toks[j + k]):=by rw [List.getElem?_map,e1]; rfl
   have hsz:=s.hsz (by intro h; rw [h] at h2; simp at h2)
   rw [hsz] at hn
   by_cases h3 : s.toks[j + k].kind = 2
   ·refine' hGO
    refine fin_ret rfl rfl (List.take_length) ⟨?_,rfl⟩
    simp [e1,h3]
   ·by_cases h4 : s.toks[j + k].text = x
    ·refine' hGO
     refine fin_ret rfl rfl (List.take_length) ⟨?_,rfl⟩
     simp [e1,h3,h4]
    ·refine' hGO
     refine fin_ret rfl rfl (List.take_length) ⟨?_,rfl⟩
     simp [e1,h3,h4]
  ·have e1 : s.toks[j + k]? = none:=List.getElem?_eq_none (by omega)
   refine' hGO
   refine fin_ret rfl rfl (List.take_length) ⟨?_,rfl⟩
   simp [e1]
 ·refine' hGO
  refine fin_ret rfl rfl (List.take_length) ⟨?_,rfl⟩
  simp [h1]
theorem heap_set {H : List Blk} {n : Nat} {b : Blk} (h : n < H.length) : (H.set n b)[n]? = some b:=List.getElem?_set_self h
theorem set_self {H : List Blk} {n : Nat} {b : Blk} (h : H[n]? = some b) : H.set n b = H:=by
 rw [← hp_nil]
 exact (hp_of h).symm
def placeF (s : Src) (r : Rd) : Int:=match s.toks[r.i.toNat]? with | some t => t.at_ | none => s.en
theorem det_place (L : LibR pr F) {S : St} {n : Nat} {s : Src} {r : Rd} (hn : S.heap[n]? = some (blk s r)) (hr : Rok s r) :
  Det pr F 134 [.ptr n 0] S (.ret (.int .i64 (placeF s r))) S:=by
 have hm:=L.hm
 refine Det.of hm (at_start hm L.f134.1 L.f134.2 rfl ?_)
 obtain ⟨H,rws⟩:=S
 obtain ⟨i,deep,code,at_⟩:=r
 obtain ⟨lo,hi,dlo,dhi⟩:=hr
 simp only [blk] at hn lo hi dlo dhi
 obtain ⟨j,rfl⟩:=Int.eq_ofNat_of_zero_le lo
 have small:=s.small
 unfold placeF
 by_cases h2 : j < s.toks.length
 ·have e1 : s.toks[j]? = some s.toks[j]:=List.getElem?_eq_getElem h2
  have e2 : (s.toks.map Tok.row)[j]? = some (Tok.row s.toks[j]):=by rw [List.getElem?_map,e1]; rfl
  have hsz:=s.hsz (by intro h; rw [h] at h2; simp at h2)
  rw [hsz] at hn
  refine' hGO
  refine fin_ret rfl rfl (List.take_length) ⟨?_,rfl⟩
  simp [e1]
 ·have e1 : s.toks[j]? = none:=List.getElem?_eq_none (by omega)
  refine' hGO
  refine fin_ret rfl rfl (List.take_length) ⟨?_,rfl⟩
  simp [e1]
def failF (s : Src) (r : Rd) (c : Int) : Rd:=if r.code = 0 then {r with code:=c,at_:=placeF s r} else r
theorem Rok.fail {s : Src} {r : Rd} (h : Rok s r) (c : Int) : Rok s (failF s r c):=by
 unfold failF
 split
 ·exact ⟨h.lo,h.hi,h.dlo,h.dhi⟩
 ·exact h
theorem det_fail (L : LibR pr F) {H : List Blk} {rw : List Nat} {n : Nat} {s : Src} {r : Rd} (hn : H[n]? = some (blk s r)) (hr : Rok s r) (c : Int) :
  Det pr F 95 [.ptr n 0,.int .i64 c] ⟨H,rw⟩ (.ret (.tup [])) ⟨H.set n (blk s (failF s r c)),rw⟩:=by
 have hm:=L.hm
 refine Det.of hm (at_start hm L.f95.1 L.f95.2 rfl ?_)
 have hlt:=(List.getElem?_eq_some_iff.1 hn).1
 have hself : H.set n (blk s r) = H:=set_self hn
 by_cases h : r.code = 0
 ·have hf : failF s r c = {r with code:=c,at_:=placeF s r}:=by unfold failF; rw [if_pos h]
  have hn0:=hn
  simp only [blk] at hn
  refine' hGO
  refine in_store (n:=n) (off:=0 + 4) rfl rfl rfl hn ⟨rfl,rfl,Nat.le_of_ble_eq_true rfl,.inr rfl⟩ (show _ = H.set n (blk s {r with code:=c}) from rfl) (recheck_nil _ _ _) ?_
  have hn2:=heap_set (b:=blk s {r with code:=c}) hlt
  have hp:=det_place (S:=⟨H.set n (blk s {r with code:=c}),rw⟩) (r:={r with code:=c}) L hn2 ⟨hr.lo,hr.hi,hr.dlo,hr.dhi⟩
  refine' hGO
  refine in_store (n:=n) (off:=0 + 5) rfl rfl rfl hn2 ⟨rfl,rfl,Nat.le_of_ble_eq_true rfl,.inr rfl⟩ (show _ = H.set n (blk s (failF s r c)) from by rw [hf]; exact List.set_set ..) (recheck_nil _ _ _) ?_
  refine' hGO
  exact fin_none' (by rw [List.take_of_length_le (by simp)]) ⟨rfl,rfl⟩
 ·have hf : failF s r c = r:=by unfold failF; rw [if_neg h]
  rw [hf,hself]
  simp only [blk] at hn
  refine' hGO
  exact fin_none' (List.take_length) ⟨rfl,rfl⟩
def takeF (s : Src) (r : Rd) (x : Str) : Rd:=if isF s r 0 x = true then {r with i:=r.i + 1} else r
theorem isF_lt {s : Src} {r : Rd} {k : Nat} {x : Str} (h : isF s r k x = true) : r.code = 0 ∧ r.i.toNat + k < s.toks.length:=by
 unfold isF at h
 simp only [Bool.and_eq_true,beq_iff_eq] at h
 refine ⟨h.1,?_⟩
 cases ht : s.toks[r.i.toNat + k]? with
 | none => rw [ht] at h; simp at h
 | some t => exact (List.getElem?_eq_some_iff.1 ht).1
theorem Rok.take {s : Src} {r : Rd} (h : Rok s r) (x : Str) : Rok s (takeF s r x):=by
 unfold takeF
 split
 ·rename_i hi
  have:=isF_lt hi
  have h1:=h.lo
  exact ⟨by simp only; omega,by simp only; omega,h.dlo,h.dhi⟩
 ·exact h
theorem det_take (L : LibR pr F) {H : List Blk} {rw : List Nat} {n : Nat} {s : Src} {r : Rd} (hn : H[n]? = some (blk s r)) (hr : Rok s r) (x : Str) :
  Det pr F 136 [.ptr n 0,.str x] ⟨H,rw⟩ (.ret (.bool (isF s r 0 x))) ⟨H.set n (blk s (takeF s r x)),rw⟩:=by
 have hm:=L.hm
 refine Det.of hm (at_start hm L.f136.1 L.f136.2 rfl ?_)
 have hlt:=(List.getElem?_eq_some_iff.1 hn).1
 have hd:=det_is (S:=⟨H,rw⟩) L hn hr 0 (by omega) x
 have hsm:=s.small
 have hlo:=hr.lo
 cases h : isF s r 0 x with
 | true =>
  rw [h] at hd
  have h2:=isF_lt h
  have ht : takeF s r x = {r with i:=r.i + 1}:=by unfold takeF; rw [if_pos h]
  rw [ht]
  have hn1:=hn
  simp only [blk] at hn1
  refine' hGO
  refine in_store (n:=n) (off:=0 + 1) rfl rfl rfl hn ⟨rfl,rfl,Nat.le_of_ble_eq_true rfl,.inr rfl⟩ (show _ = H.set n (blk s {r with i:=r.i + 1}) from rfl) (recheck_nil _ _ _) ?_
  refine' hGO
  exact fin_ret rfl rfl (by rw [List.take_of_length_le (by simp)]) ⟨rfl,rfl⟩
 | false =>
  rw [h] at hd
  have ht : takeF s r x = r:=by unfold takeF; rw [if_neg (by simp [h])]
  rw [ht,set_self hn]
  refine' hGO
  exact fin_ret rfl rfl (List.take_length) ⟨rfl,rfl⟩
def needF (s : Src) (r : Rd) (x : Str) : Rd:=if isF s r 0 x = true then takeF s r x else failF s r 110
theorem Rok.need {s : Src} {r : Rd} (h : Rok s r) (x : Str) : Rok s (needF s r x):=by
 unfold needF
 split
 ·exact h.take x
 ·exact h.fail 110
theorem det_need (L : LibR pr F) {H : List Blk} {rw : List Nat} {n : Nat} {s : Src} {r : Rd} (hn : H[n]? = some (blk s r)) (hr : Rok s r) (x : Str) :
  Det pr F 93 [.ptr n 0,.str x] ⟨H,rw⟩ (.ret (.tup [])) ⟨H.set n (blk s (needF s r x)),rw⟩:=by
 have hm:=L.hm
 refine Det.of hm (at_start hm L.f93.1 L.f93.2 rfl ?_)
 have hlt:=(List.getElem?_eq_some_iff.1 hn).1
 have hd:=det_take (rw:=rw) L hn hr x
 cases h : isF s r 0 x with
 | true =>
  have ht : needF s r x = takeF s r x:=by unfold needF; rw [if_pos h]
  rw [h] at hd
  rw [ht]
  refine' hGO
  exact fin_none' (by rw [List.take_of_length_le (by simp)]) ⟨rfl,rfl⟩
 | false =>
  have ht : needF s r x = failF s r 110:=by unfold needF; rw [if_neg (by simp [h])]
  have ht2 : takeF s r x = r:=by unfold takeF; rw [if_neg (by simp [h])]
  rw [h,ht2,set_self hn] at hd
  rw [ht]
  have hd2:=det_fail (rw:=rw) L hn hr 110
  refine' hGO
  exact fin_none' (by rw [List.take_of_length_le (by simp)]) ⟨rfl,rfl⟩
end Go.Proofs.YtmeakjgbjldkdaaGreat.Ai
namespace Go.Proofs.YtmeakjgbjldkdaaGreat.Ai
open Go
variable {pr : Prims} {F : Nat → Option IFn}
structure Adv (s : Src) (r r' : Rd) : Prop where
 ok : Rok s r'
 mono : r.i ≤ r'.i
 deep : r'.deep = r.deep
 code : r'.code = 0 → r.code = 0
theorem Adv.rfl {s : Src} {r : Rd} (h : Rok s r) : Adv s r r:=⟨h,Int.le_refl _,Eq.refl _,id⟩
theorem Adv.trans {s : Src} {a b c : Rd} (h : Adv s a b) (h' : Adv s b c) : Adv s a c:=⟨h'.ok,Int.le_trans h.mono h'.mono,h'.deep.trans h.deep,fun x => h.code (h'.code x)⟩
theorem Adv.fail {s : Src} {r : Rd} (h : Rok s r) {c : Int} (hc : c ≠ 0) : Adv s r (failF s r c):=by
 refine ⟨h.fail c,?_,?_,?_⟩ <;> unfold failF <;> split <;> simp_all
theorem Adv.take {s : Src} {r : Rd} (h : Rok s r) (x : Str) : Adv s r (takeF s r x):=by
 refine ⟨h.take x,?_,?_,?_⟩ <;> unfold takeF <;> split <;> simp_all <;> omega
theorem Adv.need {s : Src} {r : Rd} (h : Rok s r) (x : Str) : Adv s r (needF s r x):=by
 unfold needF
 split
 ·exact Adv.take h x
 ·exact Adv.fail h (by omega)
theorem fail_code {s : Src} {r : Rd} {c : Int} (hc : c ≠ 0) : (failF s r c).code ≠ 0:=by
 unfold failF
 split
 ·exact hc
 ·assumption
theorem need_code {s : Src} {r : Rd} {x : Str} (h : (needF s r x).code = 0) : isF s r 0 x = true ∧ needF s r x = {r with i:=r.i + 1}:=by
 unfold needF at h ⊢
 split at h
 ·rename_i h'
  refine ⟨h',?_⟩
  rw [if_pos h']
  unfold takeF
  rw [if_pos h']
 ·exact absurd h (fail_code (by omega))
structure NameOut where
 x : Str
 r : Rd
def enterF (s : Src) (r : Rd) : Rd:=let r':=if r.code = 0 ∧ 100 ≤ r.deep then failF s r 111 else r; {r' with deep:=r'.deep + 1}
theorem enter_fail {s : Src} {r : Rd} {c : Int} : (failF s r c).deep = r.deep ∧ (failF s r c).i = r.i:=by
 unfold failF; split <;> exact ⟨rfl,rfl⟩
theorem enterF_deep {s : Src} {r : Rd} : (enterF s r).deep = r.deep + 1 ∧ (enterF s r).i = r.i:=by
 unfold enterF
 simp only
 split
 ·exact ⟨by rw [enter_fail.1],enter_fail.2⟩
 ·exact ⟨rfl,rfl⟩
theorem enterF_code {s : Src} {r : Rd} (h : (enterF s r).code = 0) : r.code = 0 ∧ r.deep < 100 ∧ enterF s r = {r with deep:=r.deep + 1}:=by
 unfold enterF at h ⊢
 simp only at h ⊢
 by_cases hc : r.code = 0 ∧ 100 ≤ r.deep
 ·rw [if_pos hc] at h
  exact absurd h (fail_code (by omega))
 ·rw [if_neg hc] at h
  simp only [if_neg hc,and_true]
  exact ⟨h,by simp only [h,true_and] at hc; omega⟩
theorem Rok.enter {s : Src} {r : Rd} (h : Rok s r) (hd : r.deep < 1000) : Rok s (enterF s r):=by
 have:=@enterF_deep s r
 have h1:=h.lo
 have h2:=h.hi
 have h3:=h.dlo
 exact ⟨by omega,by omega,by omega,by omega⟩
theorem det_enter (L : LibR pr F) {H : List Blk} {rw : List Nat} {n : Nat} {s : Src} {r : Rd} (hn : H[n]? = some (blk s r)) (hr : Rok s r) :
  Det pr F 140 [.ptr n 0] ⟨H,rw⟩ (.ret (.bool ((enterF s r).code == 0))) ⟨H.set n (blk s (enterF s r)),rw⟩:=by
 have hm:=L.hm
 refine Det.of hm (at_start hm L.f140.1 L.f140.2 rfl ?_)
 have hlt:=(List.getElem?_eq_some_iff.1 hn).1
 have hd2:=det_fail (rw:=rw) L hn hr 111
 have h3:=hr.dlo
 have h4:=hr.dhi
 have hn1:=hn
 simp only [blk] at hn1
 by_cases hc : r.code = 0 ∧ 100 ≤ r.deep
 ·have he : enterF s r = {failF s r 111 with deep:=r.deep + 1}:=by
   unfold enterF; simp only [if_pos hc,enter_fail.1]
  obtain ⟨hc1,hc2⟩:=hc
  have hf : failF s r 111 = {r with code:=111,at_:=placeF s r}:=by unfold failF; rw [if_pos hc1]
  rw [he]
  rw [hf] at hd2 ⊢
  have hn2:=heap_set (b:=blk s {r with code:=111,at_:=placeF s r}) hlt
  have hn3 : (H.set n (blk s {r with code:=111,at_:=placeF s r}))[n]? = some (.cells [.list s.sz s.tag (s.toks.map Tok.row),.int .i64 r.i,.int .i64 s.en,.int .i64 r.deep,.int .i64 111,.int .i64 (placeF s r)]):=hn2
  have hn4 : (H.set n (blk s {i:=r.i,deep:=r.deep + 1,code:=111,at_:=placeF s r}))[n]? = some (.cells [.list s.sz s.tag (s.toks.map Tok.row),.int .i64 r.i,.int .i64 s.en,.int .i64 (r.deep + 1),.int .i64 111,.int .i64 (placeF s r)]):=heap_set hlt
  refine' hGO
  refine in_store (n:=n) (off:=0 + 3) rfl rfl rfl hn2 ⟨rfl,rfl,Nat.le_of_ble_eq_true rfl,.inr rfl⟩ (show _ = H.set n (blk s {i:=r.i,deep:=r.deep + 1,code:=111,at_:=placeF s r}) from List.set_set ..) (recheck_nil _ _ _) ?_
  refine' hGO
  exact fin_ret rfl rfl (by rw [List.take_of_length_le (by simp)]) ⟨rfl,rfl⟩
 ·have he : enterF s r = {r with deep:=r.deep + 1}:=by
   unfold enterF; simp only [if_neg hc]
  rw [he]
  have hn2:=heap_set (b:=blk s {r with deep:=r.deep + 1}) hlt
  have hn4 : (H.set n (blk s {r with deep:=r.deep + 1}))[n]? = some (.cells [.list s.sz s.tag (s.toks.map Tok.row),.int .i64 r.i,.int .i64 s.en,.int .i64 (r.deep + 1),.int .i64 r.code,.int .i64 r.at_]):=hn2
  by_cases h0 : r.code = 0
  ·refine' hGO
   refine in_store (n:=n) (off:=0 + 3) rfl rfl rfl hn ⟨rfl,rfl,Nat.le_of_ble_eq_true rfl,.inr rfl⟩ (show _ = H.set n (blk s {r with deep:=r.deep + 1}) from rfl) (recheck_nil _ _ _) ?_
   refine' hGO
   exact fin_ret rfl rfl (by rw [List.take_of_length_le (by simp)]) ⟨by simp [h0],rfl⟩
  ·refine' hGO
   refine in_store (n:=n) (off:=0 + 3) rfl rfl rfl hn ⟨rfl,rfl,Nat.le_of_ble_eq_true rfl,.inr rfl⟩ (show _ = H.set n (blk s {r with deep:=r.deep + 1}) from rfl) (recheck_nil _ _ _) ?_
   refine' hGO
   exact fin_ret rfl rfl (by rw [List.take_of_length_le (by simp)]) ⟨by simp [h0],rfl⟩
end Go.Proofs.YtmeakjgbjldkdaaGreat.Ai
namespace Go.Proofs.YtmeakjgbjldkdaaGreat.Ai
open Go
variable {pr : Prims} {F : Nat → Option IFn}
theorem det_nm (L : LibR pr F) {H : List Blk} {rw : List Nat} {n : Nat} {s : Src} {r : Rd} (hn : H[n]? = some (blk s r)) (hr : Rok s r) :
  ∃ o : NameOut,(Adv s r o.r ∧ o.x.length ≤ 40 ∧ (o.r.code = 0 → Nm o.x ∧ o.r = {r with i:=r.i + 1})) ∧ Det pr F 135 [.ptr n 0] ⟨H,rw⟩ (.ret (.str o.x)) ⟨H.set n (blk s o.r),rw⟩:=by
 have hm:=L.hm
 suffices h : Wp pr F 135 [.ptr n 0] ⟨H,rw⟩ fun q S' => ∃ o : NameOut,(Adv s r o.r ∧ o.x.length ≤ 40 ∧ (o.r.code = 0 → Nm o.x ∧ o.r = {r with i:=r.i + 1})) ∧ q = .ret (.str o.x) ∧ S' = ⟨H.set n (blk s o.r),rw⟩ by
  obtain ⟨q,S',hd,o,hp,rfl,rfl⟩:=h.det hm
  exact ⟨o,hp,hd⟩
 refine at_start hm L.f135.1 L.f135.2 rfl ?_
 have hlt:=(List.getElem?_eq_some_iff.1 hn).1
 have hd2:=det_fail (rw:=rw) L hn hr 110
 have hsm:=s.small
 have hlo:=hr.lo
 have hfail : (Adv s r (failF s r 110) ∧ ([] : Str).length ≤ 40 ∧ ((failF s r 110).code = 0 → Nm [] ∧ failF s r 110 = {r with i:=r.i + 1})):=⟨Adv.fail hr (by omega),by simp,fun h => absurd h (fail_code (by omega))⟩
 obtain ⟨j,hj⟩:=Int.eq_ofNat_of_zero_le hr.lo
 have hn1:=hn
 simp only [blk,hj] at hn1
 by_cases h0 : r.code = 0
 ·rw [h0] at hn1
  by_cases h1 : j < s.toks.length
  ·have e1 : s.toks[j]? = some s.toks[j]:=List.getElem?_eq_getElem h1
   have e2 : (s.toks.map Tok.row)[j]? = some (Tok.row s.toks[j]):=by rw [List.getElem?_map,e1]; rfl
   have hsz:=s.hsz (by intro h; rw [h] at h1; simp at h1)
   rw [hsz] at hn1
   obtain ⟨b,hb,hd3⟩:=det_isNm L.toLibL ⟨H,rw⟩ s.toks[j].text
   cases b with
   | true =>
    have hn2:=heap_set (b:=blk s {r with i:=r.i + 1}) hlt
    have hn3 : (H.set n (blk s {r with i:=r.i + 1}))[n]? = some (.cells [.list 3 s.tag (s.toks.map Tok.row),.int .i64 ((j : Int) + 1),.int .i64 s.en,.int .i64 r.deep,.int .i64 r.code,.int .i64 r.at_]):=by
     rw [hn2]; simp only [blk,hsz,hj]
    have e3 : ((j : Int) + 1 - 1) = (j : Nat):=by omega
    refine' hGO
    refine in_store (n:=n) (off:=0 + 1) rfl rfl rfl hn ⟨rfl,rfl,Nat.le_of_ble_eq_true rfl,.inr rfl⟩ (show _ = H.set n (blk s {r with i:=r.i + 1}) from by rw [hj]; rfl) (recheck_nil _ _ _) ?_
    clear hn hn1 hn2
    refine' hGO
    refine fin_ret rfl rfl (by rw [List.take_of_length_le (by simp)]) ⟨⟨s.toks[j].text,{r with i:=r.i + 1}⟩,⟨⟨⟨by simp only; omega,by simp only; omega,hr.dlo,hr.dhi⟩,by simp only; omega,rfl,fun _ => h0⟩,(hb rfl).len,fun _ => ⟨hb rfl,rfl⟩⟩,rfl,rfl⟩
   | false =>
    refine' hGO
    exact fin_ret rfl rfl (by rw [List.take_of_length_le (by simp)]) ⟨⟨[],failF s r 110⟩,hfail,rfl,rfl⟩
  ·refine' hGO
   exact fin_ret rfl rfl (by rw [List.take_of_length_le (by simp)]) ⟨⟨[],failF s r 110⟩,hfail,rfl,rfl⟩
 ·refine' hGO
  exact fin_ret rfl rfl (by rw [List.take_of_length_le (by simp)]) ⟨⟨[],failF s r 110⟩,hfail,rfl,rfl⟩
end Go.Proofs.YtmeakjgbjldkdaaGreat.Ai
namespace Go.Proofs.YtmeakjgbjldkdaaGreat.Ai
open Go
set_option maxRecDepth 100000
set_option maxHeartbeats 16000000
def F192a : {l : List IC // Tr.fn Tr.TT Tryz.f192 0 [[0,2],[0,2,3],[0,2,3,9],[0,2,3,11],[0,2,3],[0,2,3,14],[0,2,3],[0,2,3],[0,2,3],[0,2,3],[0,2,3],[0,2,3,27],[0,2,3,4],[0,2,3,4],[0,2,3,4],[0,2,3,4],[0,2,3,4],[0,2,3],[2,3],[2]] = l}:=⟨_,by cbv⟩
def r192_0 : IC:=Tr.pk F192a.1 0
def r192_1 : IC:=Tr.pk F192a.1 1
def r192_2 : IC:=Tr.pk F192a.1 2
def r192_3 : IC:=Tr.pk F192a.1 3
def r192_4 : IC:=Tr.pk F192a.1 4
def r192_5 : IC:=Tr.pk F192a.1 5
def r192_6 : IC:=Tr.pk F192a.1 6
def r192_7 : IC:=Tr.pk F192a.1 7
def r192_8 : IC:=Tr.pk F192a.1 8
def r192_9 : IC:=Tr.pk F192a.1 9
def r192_10 : IC:=Tr.pk F192a.1 10
def r192_11 : IC:=Tr.pk F192a.1 11
def r192_12 : IC:=Tr.pk F192a.1 12
def r192_13 : IC:=Tr.pk F192a.1 13
def r192_14 : IC:=Tr.pk F192a.1 14
def r192_15 : IC:=Tr.pk F192a.1 15
def r192_16 : IC:=Tr.pk F192a.1 16
def r192_17 : IC:=Tr.pk F192a.1 17
def r192_18 : IC:=Tr.pk F192a.1 18
def r192_19 : IC:=Tr.pk F192a.1 19
noncomputable def i192 : IFn:=⟨1,(.seq r192_0 (.seq r192_1 (.seq (.seq r192_2 (.cond (.tmp 9) (.seq (.seq r192_3 (.cond (.tmp 11) r192_4 (.seq r192_5 (.cond (.tmp 14) r192_6 (.seq r192_7 (.seq r192_8 r192_9)))))) (.seq r192_10 (.block 0 (.loop [0,2,3] (.seq (.seq r192_11 (.cond (.tmp 27) (.skip) (.exit 0))) (.block 1 (.seq r192_12 (.seq r192_13 (.seq r192_14 (.seq r192_15 (.seq r192_16 r192_17))))))))))) (.skip))) (.seq r192_18 (.seq r192_19 .ret))))),[.cell 2 (some 6)]⟩
theorem c192 : chkFn Tryz.prog Tryz.f192 i192 = true:=by kernel_rfl
def F193a : {l : List IC // Tr.fn Tr.TT Tryz.f193 0 [[0,2],[0,2,3],[0,2,3,5],[0,2,3],[2,3],[2]] = l}:=⟨_,by cbv⟩
def r193_0 : IC:=Tr.pk F193a.1 0
def r193_1 : IC:=Tr.pk F193a.1 1
def r193_2 : IC:=Tr.pk F193a.1 2
def r193_3 : IC:=Tr.pk F193a.1 3
def r193_4 : IC:=Tr.pk F193a.1 4
def r193_5 : IC:=Tr.pk F193a.1 5
noncomputable def i193 : IFn:=⟨1,(.seq r193_0 (.seq r193_1 (.seq (.seq r193_2 (.cond (.tmp 5) r193_3 (.skip))) (.seq r193_4 (.seq r193_5 .ret))))),[.cell 2 (some 5)]⟩
theorem c193 : chkFn Tryz.prog Tryz.f193 i193 = true:=by kernel_rfl
def F195a : {l : List IC // Tr.fn Tr.TT Tryz.f195 0 [[0],[0,3],[0,3,5],[2],[0,3,10],[0,3],[0,3,17],[2],[0,3],[2]] = l}:=⟨_,by cbv⟩
def r195_0 : IC:=Tr.pk F195a.1 0
def r195_1 : IC:=Tr.pk F195a.1 1
def r195_2 : IC:=Tr.pk F195a.1 2
def r195_3 : IC:=Tr.pk F195a.1 3
def r195_4 : IC:=Tr.pk F195a.1 4
def r195_5 : IC:=Tr.pk F195a.1 5
def r195_6 : IC:=Tr.pk F195a.1 6
def r195_7 : IC:=Tr.pk F195a.1 7
def r195_8 : IC:=Tr.pk F195a.1 8
def r195_9 : IC:=Tr.pk F195a.1 9
noncomputable def i195 : IFn:=⟨1,(.seq r195_0 (.seq r195_1 (.seq (.seq r195_2 (.cond (.tmp 5) (.seq r195_3 .ret) (.skip))) (.seq (.block 0 (.loop [0,3] (.seq (.seq r195_4 (.cond (.tmp 10) (.skip) (.exit 0))) (.block 1 (.seq r195_5 (.seq (.seq r195_6 (.cond (.tmp 17) (.seq r195_7 .ret) (.skip))) r195_8)))))) (.seq r195_9 .ret))))),[.tmp 2]⟩
theorem c195 : chkFn Tryz.prog Tryz.f195 i195 = true:=by kernel_rfl
def F201a : {l : List IC // Tr.fn Tr.TT Tryz.f201 0 [[0],[3],[3,4],[2],[3,6],[2],[3,8],[2],[3,10],[3,10],[3,10],[3,10],[3,10],[3,10],[2],[3,17],[3,17],[2],[3,20],[3,20],[20],[2],[2]] = l}:=⟨_,by cbv⟩
def r201_0 : IC:=Tr.pk F201a.1 0
def r201_1 : IC:=Tr.pk F201a.1 1
def r201_2 : IC:=Tr.pk F201a.1 2
def r201_3 : IC:=Tr.pk F201a.1 3
def r201_4 : IC:=Tr.pk F201a.1 4
def r201_5 : IC:=Tr.pk F201a.1 5
def r201_6 : IC:=Tr.pk F201a.1 6
def r201_7 : IC:=Tr.pk F201a.1 7
def r201_8 : IC:=Tr.pk F201a.1 8
def r201_9 : IC:=Tr.pk F201a.1 9
def r201_10 : IC:=Tr.pk F201a.1 10
def r201_11 : IC:=Tr.pk F201a.1 11
def r201_12 : IC:=Tr.pk F201a.1 12
def r201_13 : IC:=Tr.pk F201a.1 13
def r201_14 : IC:=Tr.pk F201a.1 14
def r201_15 : IC:=Tr.pk F201a.1 15
def r201_16 : IC:=Tr.pk F201a.1 16
def r201_17 : IC:=Tr.pk F201a.1 17
def r201_18 : IC:=Tr.pk F201a.1 18
def r201_19 : IC:=Tr.pk F201a.1 19
def r201_20 : IC:=Tr.pk F201a.1 20
def r201_21 : IC:=Tr.pk F201a.1 21
def r201_22 : IC:=Tr.pk F201a.1 22
noncomputable def i201 : IFn:=⟨1,(.seq r201_0 (.seq (.seq r201_1 (.block 0 (.seq r201_2 (.cond (.tmp 4) (.seq r201_3 .ret) (.seq r201_4 (.cond (.tmp 6) (.seq r201_5 .ret) (.seq r201_6 (.cond (.tmp 8) (.seq r201_7 .ret) (.seq (.seq r201_8 (.cond (.tmp 10) (.skip) (.seq r201_9 (.cond (.tmp 10) (.skip) (.seq r201_10 (.cond (.tmp 10) (.skip) (.seq r201_11 (.cond (.tmp 10) (.skip) (.seq r201_12 (.cond (.tmp 10) (.skip) r201_13)))))))))) (.cond (.tmp 10) (.seq r201_14 .ret) (.seq (.seq r201_15 (.cond (.tmp 17) (.skip) r201_16)) (.cond (.tmp 17) (.seq r201_17 .ret) (.seq (.seq r201_18 (.cond (.tmp 20) (.skip) (.seq r201_19 (.cond (.tmp 20) (.skip) r201_20)))) (.cond (.tmp 20) (.seq r201_21 .ret) (.skip))))))))))))))) (.seq r201_22 .ret))),[.tmp 2]⟩
theorem c201 : chkFn Tryz.prog Tryz.f201 i201 = true:=by kernel_rfl
def F227a : {l : List IC // Tr.fn Tr.TT Tryz.f227 0 [[0],[0,16],[2],[0],[0,3],[3],[2]] = l}:=⟨_,by cbv⟩
def r227_0 : IC:=Tr.pk F227a.1 0
def r227_1 : IC:=Tr.pk F227a.1 1
def r227_2 : IC:=Tr.pk F227a.1 2
def r227_3 : IC:=Tr.pk F227a.1 3
def r227_4 : IC:=Tr.pk F227a.1 4
def r227_5 : IC:=Tr.pk F227a.1 5
def r227_6 : IC:=Tr.pk F227a.1 6
noncomputable def i227 : IFn:=⟨1,(.seq r227_0 (.seq (.seq r227_1 (.cond (.tmp 16) (.seq r227_2 .ret) (.skip))) (.seq r227_3 (.seq r227_4 (.seq r227_5 (.seq r227_6 .ret)))))),[.tmp 2]⟩
theorem c227 : chkFn Tryz.prog Tryz.f227 i227 = true:=by kernel_rfl
def F228a : {l : List IC // Tr.fn Tr.TT Tryz.f228 0 [[0,1,4],[0,1,4,12],[4],[0,1,4,5],[0,1,4,5,6],[0,1,4,5,6,32],[0,1,4,5,6],[0,1,4,5,6],[0,1,4,5,6],[4,5,6,57],[4,5,6,7],[4,5,6,7,8],[4,5,6,7,8,68],[4,5,6,7,8],[4,5,6,7,8],[4],[4,5,6,9],[4,5,6,9,10],[4,5,6,9,10,95],[4,5,6,9,10],[4,5,6,9,10],[4]] = l}:=⟨_,by cbv⟩
def r228_0 : IC:=Tr.pk F228a.1 0
def r228_1 : IC:=Tr.pk F228a.1 1
def r228_2 : IC:=Tr.pk F228a.1 2
def r228_3 : IC:=Tr.pk F228a.1 3
def r228_4 : IC:=Tr.pk F228a.1 4
def r228_5 : IC:=Tr.pk F228a.1 5
def r228_6 : IC:=Tr.pk F228a.1 6
def r228_7 : IC:=Tr.pk F228a.1 7
def r228_8 : IC:=Tr.pk F228a.1 8
def r228_9 : IC:=Tr.pk F228a.1 9
def r228_10 : IC:=Tr.pk F228a.1 10
def r228_11 : IC:=Tr.pk F228a.1 11
def r228_12 : IC:=Tr.pk F228a.1 12
def r228_13 : IC:=Tr.pk F228a.1 13
def r228_14 : IC:=Tr.pk F228a.1 14
def r228_15 : IC:=Tr.pk F228a.1 15
def r228_16 : IC:=Tr.pk F228a.1 16
def r228_17 : IC:=Tr.pk F228a.1 17
def r228_18 : IC:=Tr.pk F228a.1 18
def r228_19 : IC:=Tr.pk F228a.1 19
def r228_20 : IC:=Tr.pk F228a.1 20
def r228_21 : IC:=Tr.pk F228a.1 21
noncomputable def i228 : IFn:=⟨2,(.seq r228_0 (.seq (.seq r228_1 (.cond (.tmp 12) (.seq r228_2 .ret) (.skip))) (.seq r228_3 (.seq r228_4 (.seq (.block 0 (.loop [0,1,4,5,6] (.seq (.seq r228_5 (.cond (.tmp 32) (.skip) (.exit 0))) (.block 1 (.seq r228_6 (.seq r228_7 r228_8)))))) (.seq (.seq r228_9 (.cond (.tmp 57) (.seq r228_10 (.seq (.seq r228_11 (.block 2 (.loop [4,5,6,7,8] (.seq (.seq r228_12 (.cond (.tmp 68) (.skip) (.exit 2))) (.seq (.block 3 r228_13) r228_14))))) (.seq r228_15 .ret))) (.skip))) (.seq r228_16 (.seq (.seq r228_17 (.block 4 (.loop [4,5,6,9,10] (.seq (.seq r228_18 (.cond (.tmp 95) (.skip) (.exit 4))) (.seq (.block 5 r228_19) r228_20))))) (.seq r228_21 .ret))))))))),[.cell 4 (some 5)]⟩
theorem c228 : chkFn Tryz.prog Tryz.f228 i228 = true:=by kernel_rfl
def F244a : {l : List IC // Tr.fn Tr.TT Tryz.f244 0 [[0,2],[0,2,11],[0,2,3],[0,2,3,16],[0,2,3],[0,2,3],[0,2,3,26],[0,2,3],[2,3],[2],[0,2,4],[0,2,4,46],[0,2,4,5],[0,2,4,5,51],[0,2,4,5],[0,2,4,5],[0,2,4],[0,2,4,5],[0,2,4,5],[0,2,4,5],[0,2,4,5],[0,2,4,5,77],[0,2,4,5],[0,2,4,5],[0,2,4],[2]] = l}:=⟨_,by cbv⟩
def r244_0 : IC:=Tr.pk F244a.1 0
def r244_1 : IC:=Tr.pk F244a.1 1
def r244_2 : IC:=Tr.pk F244a.1 2
def r244_3 : IC:=Tr.pk F244a.1 3
def r244_4 : IC:=Tr.pk F244a.1 4
def r244_5 : IC:=Tr.pk F244a.1 5
def r244_6 : IC:=Tr.pk F244a.1 6
def r244_7 : IC:=Tr.pk F244a.1 7
def r244_8 : IC:=Tr.pk F244a.1 8
def r244_9 : IC:=Tr.pk F244a.1 9
def r244_10 : IC:=Tr.pk F244a.1 10
def r244_11 : IC:=Tr.pk F244a.1 11
def r244_12 : IC:=Tr.pk F244a.1 12
def r244_13 : IC:=Tr.pk F244a.1 13
def r244_14 : IC:=Tr.pk F244a.1 14
def r244_15 : IC:=Tr.pk F244a.1 15
def r244_16 : IC:=Tr.pk F244a.1 16
def r244_17 : IC:=Tr.pk F244a.1 17
def r244_18 : IC:=Tr.pk F244a.1 18
def r244_19 : IC:=Tr.pk F244a.1 19
def r244_20 : IC:=Tr.pk F244a.1 20
def r244_21 : IC:=Tr.pk F244a.1 21
def r244_22 : IC:=Tr.pk F244a.1 22
def r244_23 : IC:=Tr.pk F244a.1 23
def r244_24 : IC:=Tr.pk F244a.1 24
def r244_25 : IC:=Tr.pk F244a.1 25
noncomputable def i244 : IFn:=⟨1,(.seq r244_0 (.seq (.seq r244_1 (.cond (.tmp 11) (.seq r244_2 (.seq (.seq r244_3 (.cond (.tmp 16) r244_4 (.skip))) (.seq r244_5 (.seq (.seq r244_6 (.cond (.tmp 26) r244_7 (.skip))) (.seq r244_8 (.seq r244_9 .ret)))))) (.skip))) (.seq r244_10 (.seq (.block 0 (.loop [0,2,4] (.seq (.seq r244_11 (.cond (.tmp 46) (.skip) (.exit 0))) (.block 1 (.seq r244_12 (.seq (.seq r244_13 (.cond (.tmp 51) (.seq r244_14 (.seq r244_15 (.seq r244_16 (.exit 1)))) (.skip))) (.seq r244_17 (.seq r244_18 (.seq r244_19 (.seq r244_20 (.seq (.seq r244_21 (.cond (.tmp 77) (.seq r244_22 r244_23) (.skip))) r244_24))))))))))) (.seq r244_25 .ret))))),[.cell 2 (some 5)]⟩
theorem c244 : chkFn Tryz.prog Tryz.f244 i244 = true:=by kernel_rfl
def F245a : {l : List IC // Tr.fn Tr.TT Tryz.f245 0 [[0,1],[0,37],[4],[4]] = l}:=⟨_,by cbv⟩
def r245_0 : IC:=Tr.pk F245a.1 0
def r245_1 : IC:=Tr.pk F245a.1 1
def r245_2 : IC:=Tr.pk F245a.1 2
def r245_3 : IC:=Tr.pk F245a.1 3
noncomputable def i245 : IFn:=⟨2,(.seq r245_0 (.seq (.seq r245_1 (.cond (.tmp 37) (.seq r245_2 .ret) (.skip))) (.seq r245_3 .ret))),[.tmp 4]⟩
theorem c245 : chkFn Tryz.prog Tryz.f245 i245 = true:=by kernel_rfl
def F253a : {l : List IC // Tr.fn Tr.TT Tryz.f253 0 [[0,2],[0,2,3],[0,2,3,25],[2,3],[2],[0,2,3,4],[0,2,3,4],[0,2,3,4,57],[2,3],[0,2,3,4,65],[2,3],[0,2,3,4,87],[0,2,3],[2,3],[0,2,3,4,95],[0,2,3],[0,2,3],[0,2,3],[2,3],[0,2,3,4,108],[0,2,3],[0,2,3],[0,2,3],[0,2,3,5],[0,2,3,5],[0,2,3],[2,3],[0,2,3,4,130],[0,2,3],[0,2,3],[0,2,3],[2,3]] = l}:=⟨_,by cbv⟩
def r253_0 : IC:=Tr.pk F253a.1 0
def r253_1 : IC:=Tr.pk F253a.1 1
def r253_2 : IC:=Tr.pk F253a.1 2
def r253_3 : IC:=Tr.pk F253a.1 3
def r253_4 : IC:=Tr.pk F253a.1 4
def r253_5 : IC:=Tr.pk F253a.1 5
def r253_6 : IC:=Tr.pk F253a.1 6
def r253_7 : IC:=Tr.pk F253a.1 7
def r253_8 : IC:=Tr.pk F253a.1 8
def r253_9 : IC:=Tr.pk F253a.1 9
def r253_10 : IC:=Tr.pk F253a.1 10
def r253_11 : IC:=Tr.pk F253a.1 11
def r253_12 : IC:=Tr.pk F253a.1 12
def r253_13 : IC:=Tr.pk F253a.1 13
def r253_14 : IC:=Tr.pk F253a.1 14
def r253_15 : IC:=Tr.pk F253a.1 15
def r253_16 : IC:=Tr.pk F253a.1 16
def r253_17 : IC:=Tr.pk F253a.1 17
def r253_18 : IC:=Tr.pk F253a.1 18
def r253_19 : IC:=Tr.pk F253a.1 19
def r253_20 : IC:=Tr.pk F253a.1 20
def r253_21 : IC:=Tr.pk F253a.1 21
def r253_22 : IC:=Tr.pk F253a.1 22
def r253_23 : IC:=Tr.pk F253a.1 23
def r253_24 : IC:=Tr.pk F253a.1 24
def r253_25 : IC:=Tr.pk F253a.1 25
def r253_26 : IC:=Tr.pk F253a.1 26
def r253_27 : IC:=Tr.pk F253a.1 27
def r253_28 : IC:=Tr.pk F253a.1 28
def r253_29 : IC:=Tr.pk F253a.1 29
def r253_30 : IC:=Tr.pk F253a.1 30
def r253_31 : IC:=Tr.pk F253a.1 31
def F253b : {l : List IC // Tr.fn Tr.TT Tryz.f253 32 [[0,2,3,143],[0,2,3],[0,2,3],[2,3],[0,2,3],[0,2,3],[2,3],[2]] = l}:=⟨_,by cbv⟩
def r253_32 : IC:=Tr.pk F253b.1 0
def r253_33 : IC:=Tr.pk F253b.1 1
def r253_34 : IC:=Tr.pk F253b.1 2
def r253_35 : IC:=Tr.pk F253b.1 3
def r253_36 : IC:=Tr.pk F253b.1 4
def r253_37 : IC:=Tr.pk F253b.1 5
def r253_38 : IC:=Tr.pk F253b.1 6
def r253_39 : IC:=Tr.pk F253b.1 7
noncomputable def i253 : IFn:=⟨1,(.seq r253_0 (.seq r253_1 (.seq (.seq r253_2 (.cond (.tmp 25) (.seq r253_3 (.seq r253_4 .ret)) (.skip))) (.seq r253_5 (.seq r253_6 (.seq (.block 0 (.seq r253_7 (.cond (.tmp 57) r253_8 (.seq r253_9 (.cond (.tmp 65) r253_10 (.seq r253_11 (.cond (.tmp 87) (.seq r253_12 r253_13) (.seq r253_14 (.cond (.tmp 95) (.seq r253_15 (.seq r253_16 (.seq r253_17 r253_18))) (.seq r253_19 (.cond (.tmp 108) (.seq r253_20 (.seq r253_21 (.seq r253_22 (.seq r253_23 (.seq r253_24 (.seq r253_25 r253_26)))))) (.seq r253_27 (.cond (.tmp 130) (.seq r253_28 (.seq r253_29 (.seq r253_30 r253_31))) (.seq r253_32 (.cond (.tmp 143) (.seq r253_33 (.seq r253_34 r253_35)) (.seq r253_36 (.seq r253_37 r253_38))))))))))))))))) (.seq r253_39 .ret))))))),[.cell 2 (some 5)]⟩
theorem c253 : chkFn Tryz.prog Tryz.f253 i253 = true:=by kernel_rfl
end Go.Proofs.YtmeakjgbjldkdaaGreat.Ai
