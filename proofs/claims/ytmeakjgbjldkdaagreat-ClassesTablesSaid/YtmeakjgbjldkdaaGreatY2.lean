/- A part of what is proved: Ai6, Ai7, Ai8. No condition. -/
import Derived.Test.YtmeakjgbjldkdaaGreatY1
import Derived.Laws.Strings2
import Derived.Laws.Build
import Derived.Laws.Small
import Derived.Laws.Pointers
import Derived.Deep.Upon
set_option maxRecDepth 100000
set_option maxHeartbeats 16000000
namespace Go.Proofs.YtmeakjgbjldkdaaGreat.Ai
open Go
variable {P : Program} {K : Ghost} {S : St} {w : World}
def sliceB (P : Program) (T : TypeId) (sz : Nat) : Bool:=
 match P.underlying T with
 | some (.slice e) => match P.info? e with
  | some i => i.size == sz
  | none => false
 | _ => false
theorem sliceB_spec {T : TypeId} {sz : Nat} (h : sliceB P T sz = true) : ∃ e i,P.underlying T = some (.slice e) ∧ P.info? e = some i ∧ i.size = sz:=by
 unfold sliceB at h
 split at h
 ·rename_i e he
  split at h
  ·rename_i i hi
   exact ⟨e,i,he,hi,by simpa using h⟩
  ·simp at h
 ·simp at h
def zsliceB (P : Program) (T : TypeId) (sz : Nat) : Bool:=
 match P.underlying T with
 | some (.slice e) => match P.info? e with
  | some i => i.size == sz && match i.zero with
   | some z => z.cells.size == sz
   | none => false
  | none => false
 | _ => false
theorem zsliceB_spec {T : TypeId} {sz : Nat} (h : zsliceB P T sz = true) : ∃ e i z,P.underlying T = some (.slice e) ∧ P.info? e = some i ∧ i.size = sz ∧ i.zero = some z ∧ z.cells.size = sz:=by
 unfold zsliceB at h
 split at h
 ·rename_i e he
  split at h
  ·rename_i i hi
   simp only [Bool.and_eq_true,beq_iff_eq] at h
   obtain ⟨h1,h2⟩:=h
   split at h2
   ·rename_i z hz
    exact ⟨e,i,z,he,hi,h1,hz,by simpa using h2⟩
   ·simp at h2
  ·simp at h
 ·simp at h
def structAt (P : Program) (T : TypeId) (f : Nat) : Option Field:=
 match P.underlying T with
 | some (.struct fs) => fs[f]?
 | _ => none
def optB : Option Opd → Option Operand → Bool
 | none,none => true
 | some x,some y => opdB x y
 | _,_ => false
def isStr (P : Program) (T : TypeId) : Bool:=match P.underlying T with | some .string => true | _ => false
theorem isStr_spec {T : TypeId} (h : isStr P T = true) : P.underlying T = some .string:=by
 unfold isStr at h; split at h <;> simp_all
def isBoolT (P : Program) (T : TypeId) : Bool:=match P.underlying T with | some .bool => true | _ => false
theorem isBoolT_spec {T : TypeId} (h : isBoolT P T = true) : P.underlying T = some .bool:=by
 unfold isBoolT at h; split at h <;> simp_all
def isPtrT (P : Program) (T : TypeId) : Bool:=match P.underlying T with | some (.pointer _) => true | _ => false
theorem isPtrT_spec {T : TypeId} (h : isPtrT P T = true) : ∃ e,P.underlying T = some (.pointer e):=by
 unfold isPtrT at h; split at h <;> simp_all
def numT (P : Program) (T : TypeId) : Bool:=match P.underlying T with | some (.int _) | some .string => true | _ => false
def tkB (P : Program) (T : TypeId) : TK → Bool
 | .num => numT P T
 | .bool => isBoolT P T
 | .ptr => isPtrT P T
def mapB (P : Program) (T : TypeId) : Option TypeId:=
 match P.underlying T with
 | some (.map kt et) => if isStr P kt then some et else none
 | _ => none
def chkQ (P : Program) (op : Op) (q : QOp) : Bool:=
 match op,q with
 | .move x,.mov y => opdB y x
 | .assign x,.mov y => opdB y x
 | .pick c a b,.pick c' a' b' => opdB c' c && opdB a' a && opdB b' b
 | .alloc T,.alloc _ zs => zeroB P T zs
 | .build T ps,.build zs qs => match P.underlying T with
  | some (.struct fs) => match fs.toList.mapM (fun f => (P.info? f.type).map fun i => (f.offset,i.size)) with
   | some places => zeroB P T zs && partsB places ps.toList qs
   | none => false
  | _ => false
 | .buildSlice T n ps,.mkList sz xs => zsliceB P T sz && seqB 0 ps.toList xs && xs.length == n && decide (n * sz ≤ 16777216) && decide (0 < sz)
 | .load T a,.load k y => kindB P T k && opdB y a
 | .nilCheck x,.nilCheck y => opdB y x
 | .binOp op T x y _,.bin tk op' x' y' => op == op' && opdB x' x && opdB y' y && tkB P T tk
 | .unOp .not _ x,.unot y => opdB y x
 | .unOp .neg _ x,.uneg y => opdB y x
 | .convert s d x,.conv k y => (P.underlying s).isSome && (match P.underlying d with | some (.int k') => k == k' | _ => false) && opdB y x
 | .convert s d x,.convS y => (P.underlying s).isSome && isStr P d && opdB y x
 | .makeInterface T x,.mkIface t y => T == t && P.concrete T && opdB y x
 | .makeFunc (.func f) a b,.mkFunc f' a' b' => f == f' && opdsB a' a.toList && opdsB b' b.toList
 | .slice T x lo hi none,.slice sz y lo' hi' => sliceB P T sz && opdB y x && optB lo' lo && optB hi' hi
 | .slice T x lo hi none,.sliceS y lo' hi' => isStr P T && opdB y x && optB lo' lo && optB hi' hi
 | .fieldAddr T x f,.fieldAddr off y => match structAt P T f with
  | some fd => fd.offset == off && (match P.info? fd.type with | some i => i.size != 0 | none => false) && opdB y x
  | none => false
 | .field T x f,.field off k y => match structAt P T f with
  | some fd => fd.offset == off && kindB P fd.type k && opdB y x
  | none => false
 | .indexAddr T x i,.indexAddr sz y j => sliceB P T sz && opdB y x && opdB j i
 | .index T x i,.index y j => isStr P T && opdB y x && opdB j i
 | .lookup T m k ok,.lookup zero ok' m' k' => match mapB P T with
  | some et => (match P.info? et with
   | some i => (match i.zero with | some z => repB zero z | none => false)
   | none => false) && ok == ok' && opdB m' m && opdB k' k
  | none => false
 | .typeAssert x _ t true,.tassert t' zero y => t == t' && P.concrete t && (match P.info? t with
   | some i => (match i.zero with | some z => repB zero z | none => false)
   | none => false) && opdB y x
 | .extract x i,.extract y j => i == j && opdB y x
 | .call c,.len y => match c.callee with
  | .builtin .len => (match c.args.toList,c.argTypes[0]? with
   | [x],some t => (match P.underlying t with | some (.slice _) => true | _ => false) && opdB y x
   | _,_ => false)
  | _ => false
 | .call c,.lenS y => match c.callee with
  | .builtin .len => (match c.args.toList,c.argTypes[0]? with
   | [x],some t => isStr P t && opdB y x
   | _,_ => false)
  | _ => false
 | .call c,.min2 x' y' => match c.callee with
  | .builtin .min => (match c.args.toList with
   | [x,y] => opdB x' x && opdB y' y
   | _ => false)
  | _ => false
 | _,_ => false
def Still (P : Program) (K : Ghost) (w : World) (v : AV) (s : Sem Value) : Prop:=∃ v',s.run P w = .ok v' w ∧ Rep K v v'
section ops
variable {e : Slots} {a : Act} {v : AV}
theorem size_mk (s : Str) : (⟨s.toArray⟩ : ByteArray).size = s.length:=by simp [ByteArray.size]
theorem eqGuard_plain {op : BinOp} {T : TypeId} {o1 o2 : Operand} {x y : Value} (h : x.oneCell' = true) (h2 : x ≠ .nilIface) : (eqGuard op T o1 o2 x y).run P w = .ok () w:=by
 unfold eqGuard
 cases op <;> first
  | rfl
  | (cases x <;> first | rfl | exact absurd rfl h2 | simp [Value.oneCell'] at h)
theorem ptr_in_left {T : TypeId} (d : Nat) (p : Option Addr) (h : ∃ e,P.underlying T = some (.pointer e)) : (Op.equalIn (d + 1) T (.pointer none) (.pointer p)).run P w = .ok p.isNone w:=by
 obtain ⟨e,he⟩:=h
 cases p <;> simp [Op.equalIn,run_underlying he]
theorem ptr_in_right {T : TypeId} (d : Nat) (p : Option Addr) (h : ∃ e,P.underlying T = some (.pointer e)) : (Op.equalIn (d + 1) T (.pointer p) (.pointer none)).run P w = .ok p.isNone w:=by
 obtain ⟨e,he⟩:=h
 cases p <;> simp [Op.equalIn,run_underlying he]
theorem ptr_left {T : TypeId} (p : Option Addr) (h : ∃ e,P.underlying T = some (.pointer e)) : (Op.equal T (.pointer none) (.pointer p)).run P w = .ok p.isNone w:=ptr_in_left 9999 p h
theorem ptr_right {T : TypeId} (p : Option Addr) (h : ∃ e,P.underlying T = some (.pointer e)) : (Op.equal T (.pointer p) (.pointer none)).run P w = .ok p.isNone w:=ptr_in_right 9999 p h
theorem ptr_eql_left {T : TypeId} (p : Option Addr) (h : ∃ e,P.underlying T = some (.pointer e)) : (binOp .eql T (.pointer none) (.pointer p)).run P w = .ok (.bool p.isNone) w:=by
 simp only [binOp]
 simp [ptr_left p h]
theorem ptr_neq_left {T : TypeId} (p : Option Addr) (h : ∃ e,P.underlying T = some (.pointer e)) : (binOp .neq T (.pointer none) (.pointer p)).run P w = .ok (.bool (!p.isNone)) w:=by
 simp only [binOp]
 simp [ptr_left p h]
theorem ptr_eql_right {T : TypeId} (p : Option Addr) (h : ∃ e,P.underlying T = some (.pointer e)) : (binOp .eql T (.pointer p) (.pointer none)).run P w = .ok (.bool p.isNone) w:=by
 simp only [binOp]
 simp [ptr_right p h]
theorem ptr_neq_right {T : TypeId} (p : Option Addr) (h : ∃ e,P.underlying T = some (.pointer e)) : (binOp .neq T (.pointer p) (.pointer none)).run P w = .ok (.bool (!p.isNone)) w:=by
 simp only [binOp]
 simp [ptr_right p h]
theorem ptr_case {tk : TK} {op : BinOp} {T : TypeId} {o1 o2 : Operand} (p q : Option Addr) (hT : tkB P T tk = true) (h1 : p = none ∨ q = none) (h2 : p.isSome = true ∨ q.isSome = true)
  (hv : (match (generalizing:=false) tk,op with | .ptr,.eql => some (.bool false) | .ptr,.neq => some (.bool true) | _,_ => none) = some v) :
  Still P K w v (do eqGuard op T o1 o2 (.pointer p) (.pointer q); binOp op T (.pointer p) (.pointer q)):=by
 unfold Still
 simp only [Sem.run_bind,eqGuard_plain (x:=.pointer p) rfl (by simp),Result.andThen_ok]
 cases tk <;> cases op <;> simp only [Option.some.injEq,reduceCtorEq] at hv
 case ptr.eql =>
  subst hv
  refine ⟨.bool false,?_,by simp [Rep]⟩
  rcases h1 with rfl | rfl
  ·rw [ptr_eql_left q (isPtrT_spec hT)]; cases q <;> simp_all
  ·rw [ptr_eql_right p (isPtrT_spec hT)]; cases p <;> simp_all
 case ptr.neq =>
  subst hv
  refine ⟨.bool true,?_,by simp [Rep]⟩
  rcases h1 with rfl | rfl
  ·rw [ptr_neq_left q (isPtrT_spec hT)]; cases q <;> simp_all
  ·rw [ptr_neq_right p (isPtrT_spec hT)]; cases p <;> simp_all
theorem q_bin {tk : TK} {op : BinOp} {T : TypeId} {x y : AV} {x' y' : Value} {o1 o2 : Operand} (hT : tkB P T tk = true) (hx : Rep K x x') (hy : Rep K y y') (hv : abin tk op x y = some v) :
  Still P K w v (do eqGuard op T o1 o2 x' y'; binOp op T x' y'):=by
 unfold abin at hv
 split at hv
 ·
  simp only [Rep] at hx hy
  subst hx hy
  rename_i k a k' b
  split at hv
  ·rename_i hk
   subst hk
   unfold Still
   simp only [Sem.run_bind,eqGuard_plain (x:=.int k a) rfl (by simp),Result.andThen_ok]
   cases op <;> simp only [Option.some.injEq,reduceCtorEq] at hv
   case add => subst hv; exact ⟨.int k (k.wrap (a + b)),by simp [binOp,Op.intArith],by simp [Rep]⟩
   case sub => subst hv; exact ⟨.int k (k.wrap (a - b)),by simp [binOp,Op.intArith],by simp [Rep]⟩
   case mul => subst hv; exact ⟨.int k (k.wrap (a * b)),by simp [binOp,Op.intArith],by simp [Rep]⟩
   case quo =>
    split at hv
    ·simp at hv
    ·rename_i hb
     simp only [Option.some.injEq] at hv
     subst hv
     exact ⟨.int k (k.wrap (a.tdiv b)),by simp [binOp,Op.intDiv,hb],by simp [Rep]⟩
   case rem =>
    split at hv
    ·simp at hv
    ·rename_i hb
     simp only [Option.some.injEq] at hv
     subst hv
     exact ⟨.int k (a.tmod b),by simp [binOp,Op.intDiv,hb],by simp [Rep]⟩
   case eql => subst hv; exact ⟨.bool (a == b),by simp [binOp,Op.intCmp],by simp [Rep]⟩
   case neq => subst hv; exact ⟨.bool (a != b),by simp [binOp,Op.intCmp],by simp [Rep]⟩
   case lss => subst hv; exact ⟨.bool (a < b),by simp [binOp,Op.intCmp],by simp [Rep]⟩
   case leq => subst hv; exact ⟨.bool (a ≤ b),by simp [binOp,Op.intCmp],by simp [Rep]⟩
   case gtr => subst hv; exact ⟨.bool (a > b),by simp [binOp,Op.intCmp],by simp [Rep]⟩
   case geq => subst hv; exact ⟨.bool (a ≥ b),by simp [binOp,Op.intCmp],by simp [Rep]⟩
  ·simp at hv
 ·
  rename_i s t
  simp only [Rep] at hx hy
  subst hx hy
  unfold Still
  simp only [Sem.run_bind,eqGuard_plain (x:=.string _) rfl (by simp),Result.andThen_ok]
  cases op <;> simp only [Option.some.injEq,reduceCtorEq] at hv
  case add =>
   split at hv
   ·rename_i hlt
    simp only [Option.some.injEq] at hv
    subst hv
    refine ⟨.string ⟨(s ++ t).toArray⟩,?_,by simp [Rep]⟩
    have h1 : ¬ (IntKind.i64.max < (((⟨s.toArray⟩ : ByteArray).size + (⟨t.toArray⟩ : ByteArray).size : Nat) : Int)):=by
     rw [size_mk,size_mk]
     show ¬ ((9223372036854775807 : Int) < _)
     omega
    have h2 : (⟨s.toArray⟩ : ByteArray) ++ ⟨t.toArray⟩ = ⟨(s ++ t).toArray⟩:=by
     apply ByteArray.ext
     simp
    simp only [binOp,Op.stringOp,gt_iff_lt,h1,if_false,Sem.run_pure,h2]
   ·simp at hv
  case eql => subst hv; exact ⟨.bool (s == t),by simp [binOp,Op.stringOp,ByteArray.toList_mk],by simp [Rep]⟩
  case neq => subst hv; exact ⟨.bool (!(s == t)),by simp [binOp,Op.stringOp,ByteArray.toList_mk],by simp [Rep]⟩
  case lss => subst hv; exact ⟨.bool (Op.bytesLess s t),by simp [binOp,Op.stringOp,ByteArray.toList_mk],by simp [Rep]⟩
  case leq => subst hv; exact ⟨.bool (Op.bytesLess s t || (s == t)),by simp [binOp,Op.stringOp,ByteArray.toList_mk],by simp [Rep]⟩
  case gtr => subst hv; exact ⟨.bool (!(Op.bytesLess s t || (s == t))),by simp [binOp,Op.stringOp,ByteArray.toList_mk],by simp [Rep]⟩
  case geq => subst hv; exact ⟨.bool (!Op.bytesLess s t),by simp [binOp,Op.stringOp,ByteArray.toList_mk],by simp [Rep]⟩
 ·
  rename_i b c
  simp only [Rep] at hx hy
  subst hx hy
  unfold Still
  simp only [Sem.run_bind,eqGuard_plain (x:=.bool _) rfl (by simp),Result.andThen_ok]
  cases tk <;> cases op <;> simp only [Option.some.injEq,reduceCtorEq] at hv
  case bool.eql => subst hv; exact ⟨.bool (b == c),run_eql_bool w T b c (isBoolT_spec hT),by simp [Rep]⟩
  case bool.neq => subst hv; exact ⟨.bool (!(b == c)),run_neq_bool w T b c (isBoolT_spec hT),by simp [Rep]⟩
 ·
  simp only [Rep] at hx hy
  subst hx hy
  unfold Still
  simp only [Sem.run_bind,eqGuard_plain (x:=.pointer none) rfl (by simp),Result.andThen_ok]
  cases tk <;> cases op <;> simp only [Option.some.injEq,reduceCtorEq] at hv
  case ptr.eql => subst hv; exact ⟨.bool true,ptr_eql_left none (isPtrT_spec hT),by simp [Rep]⟩
  case ptr.neq => subst hv; exact ⟨.bool false,ptr_neq_left none (isPtrT_spec hT),by simp [Rep]⟩
 ·
  simp only [Rep] at hx hy
  obtain ⟨B,_,hy⟩:=hy
  subst hx hy
  exact ptr_case _ _ hT (by simp) (by simp) hv
 ·simp only [Rep] at hx hy
  obtain ⟨B,_,hx⟩:=hx
  subst hx hy
  exact ptr_case _ _ hT (by simp) (by simp) hv
 ·simp only [Rep] at hx hy
  obtain ⟨B,o,vs,hy,_⟩:=hy
  subst hx hy
  exact ptr_case _ _ hT (by simp) (by simp) hv
 ·simp only [Rep] at hx hy
  obtain ⟨B,o,vs,hx,_⟩:=hx
  subst hx hy
  exact ptr_case _ _ hT (by simp) (by simp) hv
 ·simp at hv
theorem q_conv {s d : TypeId} {k : IntKind} {n : Int} (hs : (P.underlying s).isSome = true) (hd : P.underlying d = some (.int k)) {k0 : IntKind} :
  (convert s d (.int k0 n)).run P w = .ok (.int k (k.wrap n)) w:=by
 obtain ⟨u,hu⟩:=Option.isSome_iff_exists.1 hs
 simp [convert,run_underlying hu,run_underlying hd,Conv.intToInt]
theorem q_convS {s d : TypeId} {b : ByteArray} (hs : (P.underlying s).isSome = true) (hd : P.underlying d = some .string) :
  (convert s d (.string b)).run P w = .ok (.string b) w:=by
 obtain ⟨u,hu⟩:=Option.isSome_iff_exists.1 hs
 simp [convert,run_underlying hu,run_underlying hd]
theorem add_none (B o n : Nat) : (⟨B,o,none⟩ : Addr).add n = ⟨B,o + n,none⟩:=by unfold Addr.add; split <;> simp_all
theorem optIx_spec {x : Option Opd} {y : Option Operand} {l : Option Int} (E : EnvRep K e a.tmps) (h : optB x y = true) (hx : optIx x e = some l) :
  (l = none ∧ y.map a.eval = none) ∨ ∃ k n,l = some n ∧ y.map a.eval = some (.int k n):=by
 cases x with
 | none =>
  cases y with
  | none => simp only [optIx,Option.some.injEq] at hx; exact .inl ⟨hx.symm,rfl⟩
  | some y => simp [optB] at h
 | some x =>
  cases y with
  | none => simp [optB] at h
  | some y =>
   simp only [optB] at h
   simp only [optIx] at hx
   cases hv : x.val e with
   | none => simp [hv] at hx
   | some v =>
    simp only [hv] at hx
    have hr:=opd_spec E h hv
    cases v <;> simp [asIx] at hx
    rename_i k n
    simp only [Rep] at hr
    exact .inr ⟨k,n,hx.symm,by simp [hr]⟩
theorem run_bounds {isSlice : Bool} {len cap : Nat} {lo hi : Option Value} {l h : Option Int} (hlc : len ≤ cap)
  (hl : (l = none ∧ lo = none) ∨ ∃ k n,l = some n ∧ lo = some (.int k n)) (hh : (h = none ∧ hi = none) ∨ ∃ k n,h = some n ∧ hi = some (.int k n))
  (h0 : 0 ≤ l.getD 0) (h1 : l.getD 0 ≤ h.getD len) (h2 : h.getD len ≤ len) :
  (Instr.sliceBounds isSlice len cap lo hi none).run P w = .ok ((l.getD 0).toNat,(h.getD len).toNat,cap) w:=by
 have sb : ∀ (k : IntKind) (n : Int) (y : Nat) (code : BoundsCode),0 ≤ n → n ≤ y → (Instr.sliceBound (.int k n) y code).run P w = .ok n.toNat w:=by
  intro k n y code g1 g2
  simp only [Instr.sliceBound,asIntOf,Sem.run_bind,Sem.run_pure,Result.andThen_ok]
  rw [if_pos ⟨g1,g2⟩]
  rfl
 unfold Instr.sliceBounds
 rcases hh with ⟨rfl,rfl⟩ | ⟨k,n,rfl,rfl⟩ <;> rcases hl with ⟨rfl,rfl⟩ | ⟨k',n',rfl,rfl⟩ <;> simp only [Option.getD_some,Option.getD_none] at h0 h1 h2 ⊢
 ·simp
 ·have g:=sb k' n' len .sliceB h0 h1
  simp [g]
 ·have g1:=sb k n cap .sliceAcap (by omega) (by omega)
  have g2:=sb k n cap .sliceAlen (by omega) (by omega)
  cases isSlice <;> simp [g1,g2]
 ·have g1:=sb k n cap .sliceAcap (by omega) (by omega)
  have g2:=sb k n cap .sliceAlen (by omega) (by omega)
  have g:=sb k' n' n.toNat .sliceB h0 (by omega)
  cases isSlice <;> simp [g1,g2,g]
theorem q_sliceS {T : TypeId} {x : AV} {x' : Value} {l h : Option Int} {lo hi : Option Value} (hT : isStr P T = true) (hx : Rep K x x')
  (hl : (l = none ∧ lo = none) ∨ ∃ k n,l = some n ∧ lo = some (.int k n)) (hh : (h = none ∧ hi = none) ∨ ∃ k n,h = some n ∧ hi = some (.int k n)) (hv : asliceS x l h = some v) :
  Still P K w v (Instr.sliceAt T x' lo hi none):=by
 unfold asliceS at hv
 split at hv
 ·rename_i s
  simp only [Rep] at hx
  subst hx
  simp only [Option.ite_none_right_eq_some,Option.some.injEq] at hv
  obtain ⟨⟨h0,h1,h2⟩,rfl⟩:=hv
  have hb:=run_bounds (P:=P) (w:=w) (isSlice:=false) (len:=s.length) (cap:=s.length) (Nat.le_refl _) hl hh h0 h1 h2
  refine ⟨.string ⟨((s.drop (l.getD 0).toNat).take ((h.getD s.length).toNat - (l.getD 0).toNat)).toArray⟩,?_,by simp [Rep]⟩
  simp [Instr.sliceAt,Instr.slice,run_underlying (isStr_spec hT),size_mk,hb,ByteArray.extract_mk]
 ·simp at hv
theorem take_drop_flatten {sz : Nat} : ∀ (rows : List (List AV)),(∀ r ∈ rows,r.length = sz) → ∀ i,(rows.drop i).flatten = rows.flatten.drop (i * sz)
 | [],_,i => by simp
 | r :: rs,h,0 => by simp
 | r :: rs,h,i + 1 => by
  have h1:=h r (by simp)
  have e1 : r.drop ((i + 1) * sz) = []:=List.drop_of_length_le (by rw [h1,Nat.add_mul]; omega)
  rw [List.drop_succ_cons,take_drop_flatten rs (fun x hx => h x (by simp [hx])) i,List.flatten_cons,List.drop_append,e1]
  rw [h1,show (i + 1) * sz - sz = i * sz by rw [Nat.add_mul]; omega]
  rfl
theorem take_flatten {sz : Nat} : ∀ (rows : List (List AV)),(∀ r ∈ rows,r.length = sz) → ∀ i,(rows.take i).flatten = rows.flatten.take (i * sz)
 | [],_,i => by simp
 | r :: rs,h,0 => by simp
 | r :: rs,h,i + 1 => by
  have h1:=h r (by simp)
  have e1 : r.take ((i + 1) * sz) = r:=List.take_of_length_le (by rw [h1,Nat.add_mul]; omega)
  rw [List.take_succ_cons,List.flatten_cons,take_flatten rs (fun x hx => h x (by simp [hx])) i,List.flatten_cons,List.take_append,e1]
  rw [h1,show (i + 1) * sz - sz = i * sz by rw [Nat.add_mul]; omega]
theorem flatten_length {sz : Nat} : ∀ (rows : List (List AV)),(∀ r ∈ rows,r.length = sz) → rows.flatten.length = rows.length * sz
 | [],_ => by simp
 | r :: rs,h => by
  have:=flatten_length rs (fun x hx => h x (by simp [hx]))
  simp only [List.flatten_cons,List.length_append,this,h r (by simp),List.length_cons,Nat.add_mul]
  omega
theorem fix_sub {B o : Nat} {vs : List Value} (h : K.fix B o vs) (i n : Nat) (hi : i ≤ vs.length) : K.fix B (o + i) ((vs.drop i).take n):=by
 obtain ⟨l,hg,hl⟩:=h
 refine ⟨l,hg,?_⟩
 have hle:=congrArg List.length hl
 simp only [List.length_take,List.length_drop] at hle
 have e : (vs.drop i).take n = ((l.drop (o + i)).take (vs.length - i)).take n:=by
  rw [← List.drop_drop,← List.drop_take,hl]
 rw [e,List.take_take]
 rw [List.length_take,List.length_drop]
 congr 1
 omega
theorem q_slice {T : TypeId} {sz : Nat} {x : AV} {x' : Value} {l h : Option Int} {lo hi : Option Value} (hT : sliceB P T sz = true) (hx : Rep K x x')
  (hl : (l = none ∧ lo = none) ∨ ∃ k n,l = some n ∧ lo = some (.int k n)) (hh : (h = none ∧ hi = none) ∨ ∃ k n,h = some n ∧ hi = some (.int k n)) (hv : aslice sz x l h = some v) :
  Still P K w v (Instr.sliceAt T x' lo hi none):=by
 obtain ⟨el,ti,hu,hi',hsz⟩:=sliceB_spec hT
 unfold aslice at hv
 split at hv
 ·rename_i sz' tag rows
  simp only [Option.ite_none_right_eq_some,Option.some.injEq] at hv
  obtain ⟨⟨h0,h1,h2,h3⟩,rfl⟩:=hv
  simp only [Rep] at hx
  obtain ⟨base,cap,rfl,hlc,hs,hr⟩:=hx
  have hb:=run_bounds (P:=P) (w:=w) (isSlice:=true) (len:=rows.length) (cap:=cap) hlc hl hh h0 h1 h2
  generalize hli : (l.getD 0).toNat = i at *
  generalize hji : (h.getD (rows.length : Int)).toNat = j at *
  have hij : i ≤ j:=by omega
  have hjr : j ≤ rows.length:=by omega
  have hlen : ((rows.drop i).take (j - i)).length = j - i:=by simp; omega
  have hrun : (Instr.sliceAt T (.slice base rows.length cap) lo hi none).run P w = .ok (.slice (if cap = i then base else base.map (·.add (i * sz))) (j - i) (cap - i)) w:=by
   simp [Instr.sliceAt,Instr.slice,run_underlying hu,hb,sizeOf,typeInfo,hi',hsz]
  refine ⟨_,hrun,?_⟩
  simp only [Rep]
  refine ⟨_,_,by rw [hlen],by rw [hlen]; omega,fun r hr' => hs r (List.mem_of_mem_drop (List.mem_of_mem_take hr')),?_⟩
  rcases hr with ⟨rfl,rfl,rfl⟩ | ⟨B,o,vs,rfl,hf,hrl,ht⟩
  ·left
   refine ⟨by simp,by simp,by omega⟩
  ·right
   have hlv:=(RepLL.flat.1 hrl).length
   have hfl : rows.flatten.length = rows.length * sz':=flatten_length rows (fun r hr' => (hs r hr').1)
   by_cases hci : cap = i
   ·
    have e1 : (rows.drop i).take (j - i) = []:=by
     rw [List.drop_of_length_le (by omega)]; simp
    rw [if_pos hci,e1]
    refine ⟨B,o,[],rfl,?_,by simp [RepLL],?_⟩
    ·obtain ⟨l',hg,hl'⟩:=hf
     exact ⟨l',hg,by simp⟩
    ·refine ⟨ht.1,?_⟩
     replace ht:=ht.2
     split
     ·cases tag with
      | full => simp [Ghost.tagIn] at ht ⊢; omega
      | row b e => exact ⟨ht.1,fun h => absurd h (by simp; omega)⟩
      | still => exact ht
      | dead => trivial
     ·trivial
   ·rw [if_neg hci]
    by_cases hszr : sz' = sz
    ·subst hszr
     refine ⟨B,o + i * sz',(vs.drop (i * sz')).take ((j - i) * sz'),by simp [add_none],fix_sub hf _ _ ?_,?_,?_⟩
     ·rw [hlv,hfl]; exact Nat.mul_le_mul_right _ (by omega)
     ·rw [RepLL.flat,take_flatten _ (fun r hr' => (hs r (List.mem_of_mem_drop hr')).1),take_drop_flatten _ (fun r hr' => (hs r hr').1)]
      exact ((RepLL.flat.1 hrl).drop _).take _
     ·rw [hlen]
      refine ⟨ht.1,?_⟩
      replace ht:=ht.2
      split
      ·rename_i hhl
       have hj : j = rows.length:=by omega
       cases tag with
       | full => simp only [Ghost.tagIn] at ht ⊢; omega
       | still => exact ht
       | dead => trivial
       | row b e' =>
        refine ⟨ht.1,fun hlt => ?_⟩
        have hlt2 : rows.length < cap:=by omega
        obtain ⟨E,size,l',ha,hg,hle,hl',hs'⟩:=ht.2 hlt2
        clear ht
        have hm1 : rows.length * sz' = i * sz' + (j - i) * sz':=by rw [← Nat.add_mul]; congr 1; omega
        have hm2 : cap * sz' = i * sz' + (cap - i) * sz':=by rw [← Nat.add_mul]; congr 1; omega
        refine ⟨E,size,l',ha,hg,hle,?_,?_⟩
        ·rw [hl',hm1]; omega
        ·rw [hm2] at hs'; omega
      ·trivial
    ·have hnil : rows = []:=h3.resolve_left hszr
     subst hnil
     have hi0 : i = 0:=by simp at hjr; omega
     have hj0 : j = 0:=by simp at hjr; omega
     subst hi0 hj0
     refine ⟨B,o,[],by simp [Addr.add],?_,by simp [RepLL],?_⟩
     ·obtain ⟨l',hg,hl'⟩:=hf
      exact ⟨l',hg,by simp⟩
     ·refine ⟨ht.1,?_⟩
      replace ht:=ht.2
      split
      ·simpa using ht
      ·trivial
 ·simp at hv
theorem q_indexAddr {T : TypeId} {sz : Nat} {x : AV} {x' i' : Value} {k : IntKind} {n : Int} (hT : sliceB P T sz = true) (hx : Rep K x x') (hi : i' = .int k n)
  (hv : (match x with
   | .list sz' _ rows => if 0 ≤ n ∧ sz' = sz then (rows[n.toNat]?).map AV.ref else none
   | .arr m off sz' len => if 0 ≤ n ∧ n < len ∧ sz' = sz then some (.ptr m (off + n.toNat * sz)) else none
   | _ => none) = some v) : Still P K w v (Instr.indexAt T x' i'):=by
 obtain ⟨el,ti,hu,hi',hsz⟩:=sliceB_spec hT
 subst hi
 cases x <;> simp only [reduceCtorEq] at hv
 case list sz' tag rows =>
  split at hv
  ·rename_i hc
   obtain ⟨h0,rfl⟩:=hc
   simp only [Option.map_eq_some_iff] at hv
   obtain ⟨row,hrow,rfl⟩:=hv
   have hlt:=(List.getElem?_eq_some_iff.1 hrow).1
   simp only [Rep] at hx
   obtain ⟨base,cap,rfl,hlc,hs,hr⟩:=hx
   rcases hr with ⟨rfl,rfl,rfl⟩ | ⟨B,o,vs,rfl,hf,hrl,ht⟩
   ·simp at hlt
   ·have hfl:=flatten_length rows (fun r hr' => (hs r hr').1)
    have hlv:=(RepLL.flat.1 hrl).length
    have hmem:=List.mem_of_getElem? hrow
    refine ⟨.pointer (some ⟨B,o + n.toNat * sz',none⟩),?_,?_⟩
    ·simp only [Instr.indexAt,asIntOf,Sem.run_bind,Sem.run_pure,Result.andThen_ok,run_underlying hu]
     simp only [Bool.and_false,Bool.false_eq_true,if_false,Sem.run_ite,Sem.run_bind,run_sizeOf hi',Result.andThen_ok,Sem.run_pure,hsz,add_none]
     rw [if_pos (by omega)]
    ·simp only [Rep]
     refine ⟨B,_,(vs.drop (n.toNat * sz')).take sz',rfl,fix_sub hf _ _ ?_,?_⟩
     ·rw [hlv,hfl]; exact Nat.mul_le_mul_right _ (by omega)
     ·have e1 : rows.flatten.drop (n.toNat * sz') = row ++ (rows.drop (n.toNat + 1)).flatten:=by
       rw [← take_drop_flatten rows (fun r hr' => (hs r hr').1),List.drop_eq_getElem_cons hlt]
       rw [List.flatten_cons]
       congr 1
       have:=List.getElem?_eq_getElem hlt
       rw [this] at hrow
       simpa using hrow
      have h1:=((RepLL.flat.1 hrl).drop (n.toNat * sz')).take sz'
      rw [e1,List.take_append_of_le_length (by rw [(hs row hmem).1]; omega),List.take_of_length_le (by rw [(hs row hmem).1]; omega)] at h1
      exact h1
  ·simp at hv
 case arr m off sz' len =>
  split at hv
  ·rename_i hc
   obtain ⟨h0,h1,rfl⟩:=hc
   simp only [Option.some.injEq] at hv
   subst hv
   simp only [Rep] at hx
   obtain ⟨B,cap,hm,_,rfl⟩:=hx
   refine ⟨.pointer (some ⟨B,off + n.toNat * sz',none⟩),?_,by simp only [Rep]; exact ⟨B,hm,rfl⟩⟩
   simp only [Instr.indexAt,asIntOf,Sem.run_bind,Sem.run_pure,Result.andThen_ok,run_underlying hu]
   simp only [Bool.and_false,Bool.false_eq_true,if_false,Sem.run_ite,Sem.run_bind,run_sizeOf hi',Result.andThen_ok,Sem.run_pure,hsz,add_none]
   rw [if_pos (by omega)]
  ·simp at hv
theorem q_index {T : TypeId} {s : Str} {k : IntKind} {n : Int} {b : UInt8} (hT : isStr P T = true) (h0 : 0 ≤ n) (hv : s[n.toNat]? = some b) :
  (Instr.index T (.string ⟨s.toArray⟩) (.int k n)).run P w = .ok (.int .u8 b.toNat) w:=by
 have hlt:=(List.getElem?_eq_some_iff.1 hv).1
 have hb : (⟨s.toArray⟩ : ByteArray)[n.toNat]? = some b:=by
  have h2 : n.toNat < (⟨s.toArray⟩ : ByteArray).size:=by rw [size_mk]; exact hlt
  rw [List.getElem?_eq_getElem hlt,Option.some.injEq] at hv
  rw [getElem?_pos (⟨s.toArray⟩ : ByteArray) n.toNat h2,← hv]
  rfl
 simp [Instr.index,asIntOf,run_underlying (isStr_spec hT),h0,hb]
theorem structAt_spec {T : TypeId} {f : Nat} {fd : Field} (hs : structAt P T f = some fd) : ∃ fs,P.underlying T = some (.struct fs) ∧ fs[f]? = some fd:=by
 unfold structAt at hs
 split at hs
 ·rename_i fs hfs; exact ⟨fs,hfs,hs⟩
 ·simp at hs
theorem q_fieldAddr {T : TypeId} {f off : Nat} {fd : Field} {i : TypeInfo} {x : AV} {x' : Value} (hs : structAt P T f = some fd) (ho : fd.offset = off) (hi : P.info? fd.type = some i) (hz : i.size ≠ 0)
  (hx : Rep K x x') (hv : (match x with | .ptr n o => some (.ptr n (o + off)) | .ref cs => if off ≤ cs.length then some (.ref (cs.drop off)) else none | _ => none) = some v) :
  Still P K w v (Instr.fieldAt T x' f):=by
 obtain ⟨fs,hu,hfd⟩:=structAt_spec hs
 have hrun : ∀ B o,(Instr.fieldAt T (.pointer (some ⟨B,o,none⟩)) f).run P w = .ok (.pointer (some ⟨B,o + off,none⟩)) w:=by
  intro B o
  simp only [Instr.fieldAt,Sem.run_bind,run_underlying hu,Result.andThen_ok,hfd,Instr.sureAddr,Sem.run_pure,fieldPlace,run_sizeOf hi]
  rw [if_neg hz]
  simp [add_none,ho]
 cases x <;> simp only [Option.some.injEq,Option.ite_none_right_eq_some,reduceCtorEq] at hv
 case ptr n o =>
  subst hv
  simp only [Rep] at hx
  obtain ⟨B,hm,rfl⟩:=hx
  exact ⟨_,hrun B o,by simp only [Rep]; exact ⟨B,hm,rfl⟩⟩
 case ref cs =>
  obtain ⟨hl,rfl⟩:=hv
  simp only [Rep] at hx
  obtain ⟨B,o,vs,rfl,hf,hr⟩:=hx
  refine ⟨_,hrun B o,?_⟩
  simp only [Rep]
  refine ⟨B,o + off,vs.drop off,rfl,?_,hr.drop off⟩
  have:=fix_sub hf off (vs.length - off) (by rw [hr.length]; exact hl)
  rwa [List.take_of_length_le (by simp)] at this
theorem kind_part {T : TypeId} {k : Option Nat} {off : Nat} {cs : List AV} {vs : List Value} (hk : kindB P T k = true) (hr : RepL K cs vs)
  (hv : (match (generalizing:=false) k with | none => cs[off]? | some m => if off + m ≤ cs.length then some (AV.agg ((cs.drop off).take m)) else none) = some v) :
  Still P K w v (part T vs.toArray off):=by
 unfold kindB at hk
 split at hk
 ·rename_i d i hd hi
  by_cases hrow : d.isRow = true
  ·rw [if_pos hrow] at hk
   have hk' : k = some i.size:=by simpa using hk
   subst hk'
   simp only [Option.ite_none_right_eq_some,Option.some.injEq] at hv
   obtain ⟨hle,rfl⟩:=hv
   have hagg : (isAgg T).run P w = .ok true w:=by
    unfold isAgg
    rw [Sem.run_bind,run_underlying hd w]
    cases d <;> simp_all [TypeDesc.isRow]
   refine ⟨.agg ((vs.drop off).take i.size).toArray,?_,by simp only [Rep]; exact ⟨_,rfl,(hr.drop off).take _⟩⟩
   simp [part,hagg,run_sizeOf hi]
  ·rw [if_neg hrow] at hk
   have hk' : k = none:=by simpa using hk
   subst hk'
   simp only at hv
   obtain ⟨u,hu,_,h2⟩:=hr.get off v hv
   have hagg : (isAgg T).run P w = .ok false w:=by
    unfold isAgg
    rw [Sem.run_bind,run_underlying hd w]
    cases d <;> simp_all [TypeDesc.isRow]
   exact ⟨u,by simp [part,hagg,hu],h2⟩
 ·simp at hk
theorem q_field {T : TypeId} {f off : Nat} {k : Option Nat} {fd : Field} {cs : List AV} {x' : Value} (hs : structAt P T f = some fd) (ho : fd.offset = off) (hk : kindB P fd.type k = true)
  (hx : Rep K (.agg cs) x') (hv : (match (generalizing:=false) k with | none => cs[off]? | some m => if off + m ≤ cs.length then some (AV.agg ((cs.drop off).take m)) else none) = some v) :
  Still P K w v (Instr.field T x' f):=by
 obtain ⟨fs,hu,hfd⟩:=structAt_spec hs
 simp only [Rep] at hx
 obtain ⟨vs,rfl,hr⟩:=hx
 obtain ⟨v',h1,h2⟩:=kind_part (P:=P) (w:=w) hk hr hv
 refine ⟨v',?_,h2⟩
 subst ho
 simp [Instr.field,run_underlying hu,hfd,asAgg,h1]
theorem mapB_spec {T et : TypeId} (h : mapB P T = some et) : ∃ kt,P.underlying T = some (.map kt et) ∧ P.underlying kt = some .string:=by
 unfold mapB at h
 split at h
 ·rename_i kt et' hu
  simp only [Option.ite_none_right_eq_some,Option.some.injEq] at h
  obtain ⟨h1,rfl⟩:=h
  exact ⟨kt,hu,isStr_spec h1⟩
 ·simp at h
theorem beq_mk (s k : Str) : ((⟨s.toArray⟩ : ByteArray) == ⟨k.toArray⟩) = (s == k):=by
 show (s.toArray == k.toArray) = (s == k)
 rw [Bool.eq_iff_iff,beq_iff_eq,beq_iff_eq]
 simp
theorem findNow_some {s : Str} : ∀ {es : List (Str × AV)} {ms : List MapEntry} {v : AV} (i : Nat),RepM K es ms → mlook es s = some v →
  ∃ j u,Instr.findNow .string (.string ⟨s.toArray⟩) ms i = some (some (i + j,u)) ∧ Rep K v u ∧ (∃ m,ms[j]? = some m ∧ m.key = .string ⟨s.toArray⟩)
 | [],_,_,_,_,h => by simp [mlook] at h
 | (k,a) :: es,ms,v,i,hr,h => by
  simp only [RepM] at hr
  obtain ⟨m,ms',rfl,hk,hv,hr'⟩:=hr
  simp only [mlook] at h
  by_cases hks : k = s
  ·subst hks
   simp only [if_true,Option.some.injEq] at h
   subst h
   refine ⟨0,m.val,?_,hv,m,rfl,hk⟩
   simp [Instr.findNow,Instr.sameNow,hk,beq_mk]
  ·rw [if_neg hks] at h
   obtain ⟨j,u,h1,h2,m',h3,h4⟩:=findNow_some (i + 1) hr' h
   refine ⟨j + 1,u,?_,h2,m',by simpa using h3,h4⟩
   have hne : ((⟨s.toArray⟩ : ByteArray) == ⟨k.toArray⟩) = false:=by
    rw [beq_mk,beq_eq_false_iff_ne]
    exact fun heq => hks heq.symm
   simp only [Instr.findNow,Instr.sameNow,hk,hne]
   rw [h1]
   congr 3
   omega
theorem findNow_none {s : Str} : ∀ {es : List (Str × AV)} {ms : List MapEntry} (i : Nat),RepM K es ms → mlook es s = none →
  Instr.findNow .string (.string ⟨s.toArray⟩) ms i = some none
 | [],ms,i,hr,_ => by simp only [RepM] at hr; subst hr; rfl
 | (k,a) :: es,ms,i,hr,h => by
  simp only [RepM] at hr
  obtain ⟨m,ms',rfl,hk,hv,hr'⟩:=hr
  simp only [mlook] at h
  by_cases hks : k = s
  ·rw [if_pos hks] at h; cases h
  ·rw [if_neg hks] at h
   have hne : ((⟨s.toArray⟩ : ByteArray) == ⟨k.toArray⟩) = false:=by
    rw [beq_mk,beq_eq_false_iff_ne]
    exact fun heq => hks heq.symm
   simp only [Instr.findNow,Instr.sameNow,hk,hne]
   exact findNow_none (i + 1) hr' h
theorem run_checkKey {T : TypeId} {s : Str} (b : Bool) (n : Nat) (h : P.underlying T = some .string) : (Instr.checkKey b (n + 1) T (.string ⟨s.toArray⟩)).run P w = .ok () w:=by
 simp [Instr.checkKey,run_underlying h]
theorem run_checkKey' {T : TypeId} {s : Str} (b : Bool) (h : P.underlying T = some .string) : (Instr.checkKey b 10000 T (.string ⟨s.toArray⟩)).run P w = .ok () w:=
 run_checkKey b 9999 h
theorem run_findKey_some {T : TypeId} {s : Str} {es : List (Str × AV)} {ms : List MapEntry} {v : AV} (h : P.underlying T = some .string) (hr : RepM K es ms) (hv : mlook es s = some v) :
  ∃ j u,(Instr.findKey T (.string ⟨s.toArray⟩) ms).run P w = .ok (some (j,u)) w ∧ Rep K v u ∧ (∃ m,ms[j]? = some m ∧ m.key = .string ⟨s.toArray⟩):=by
 obtain ⟨j,u,h1,h2,h3⟩:=findNow_some (K:=K) 0 hr hv
 refine ⟨j,u,?_,h2,h3⟩
 simp [Instr.findKey,run_underlying h,h1]
theorem run_findKey_none {T : TypeId} {s : Str} {es : List (Str × AV)} {ms : List MapEntry} (h : P.underlying T = some .string) (hr : RepM K es ms) (hv : mlook es s = none) :
  (Instr.findKey T (.string ⟨s.toArray⟩) ms).run P w = .ok none w:=by
 simp [Instr.findKey,run_underlying h,findNow_none (K:=K) 0 hr hv]
theorem run_getMap {B ck : Nat} {ms : Array MapEntry} (h : w.heap[B]? = some (.map ms ck)) : (getObj B).run P w = .ok (.map ms ck) w:=by
 simp [getObj,Sem.run,h]
theorem q_lookup {T et : TypeId} {i : TypeInfo} {z : Value} {zero m : AV} {s : Str} {ok : Bool} {m' : Value} (R : Rel K S w) (hT : mapB P T = some et) (hi : P.info? et = some i) (hz : i.zero = some z) (hzr : repB zero z = true)
  (hm : Rep K m m')
  (hv : (match m with
   | .map n => (match S.heap[n]? with
    | some (.map es) => (match mlook es s with
     | some v => some (if ok then AV.tup [v,.bool true] else v)
     | none => some (if ok then AV.tup [zero,.bool false] else zero))
    | _ => none)
   | .nilm => some (if ok then AV.tup [zero,.bool false] else zero)
   | _ => none) = some v) :
  Still P K w v (Instr.lookup T m' (.string ⟨s.toArray⟩) ok):=by
 obtain ⟨kt,hu,hk⟩:=mapB_spec hT
 have hzr':=repB_spec K _ _ hzr
 have fin : ∀ (x : AV) (u : Value) (b : Bool),Rep K x u → Rep K (if ok then AV.tup [x,.bool b] else x) (if ok then .tuple #[u,.bool b] else u):=by
  intro x u b hx
  cases ok
  ·simpa using hx
  ·simp only [if_true,Rep]
   exact ⟨[u,.bool b],rfl,by simp only [RepT,Rep]; exact ⟨u,_,rfl,hx,_,_,rfl,rfl,rfl⟩⟩
 cases m <;> simp only [Option.some.injEq,reduceCtorEq] at hv
 case nilm =>
  subst hv
  simp only [Rep] at hm
  subst hm
  refine ⟨_,?_,fin zero z false hzr'⟩
  simp [Instr.lookup,run_underlying hu,run_checkKey' _ hk,Instr.findKey,run_underlying hk,Instr.findNow,run_zeroValue hi hz]
 case map n =>
  simp only [Rep] at hm
  obtain ⟨B,hmB,rfl⟩:=hm
  cases hb : S.heap[n]? with
  | none => simp [hb] at hv
  | some b =>
   cases b with
   | cells cs => simp [hb] at hv
   | map es =>
    simp only [hb] at hv
    obtain ⟨ms,ck,hw,hr⟩:=R.maps n B es hmB hb
    cases hl : mlook es s with
    | some x =>
     simp only [hl,Option.some.injEq] at hv
     subst hv
     obtain ⟨j,u,h1,h2,_⟩:=run_findKey_some (P:=P) (w:=w) hk hr hl
     refine ⟨_,?_,fin x u true h2⟩
     simp [Instr.lookup,run_underlying hu,run_getMap hw,run_checkKey' _ hk,h1]
    | none =>
     simp only [hl,Option.some.injEq] at hv
     subst hv
     have h1:=run_findKey_none (P:=P) (w:=w) hk hr hl
     refine ⟨_,?_,fin zero z false hzr'⟩
     simp [Instr.lookup,run_underlying hu,run_getMap hw,run_checkKey' _ hk,h1,run_zeroValue hi hz]
theorem q_tassert {T t : TypeId} {i : TypeInfo} {z : Value} {zero x : AV} {x' : Value} (hT : P.concrete t = true) (hi : P.info? t = some i) (hz : i.zero = some z) (hzr : repB zero z = true) (hx : Rep K x x')
  (hv : (match x with
   | .iface t' v => some (if t' = t then AV.tup [v,.bool true] else .tup [zero,.bool false])
   | .nili => some (.tup [zero,.bool false])
   | _ => none) = some v) : Still P K w v (Instr.typeAssert x' T t true):=by
 have hzr':=repB_spec K _ _ hzr
 have fin : ∀ (x : AV) (u : Value) (b : Bool),Rep K x u → Rep K (AV.tup [x,.bool b]) (.tuple #[u,.bool b]):=by
  intro x u b hx
  simp only [Rep]
  exact ⟨[u,.bool b],rfl,by simp only [RepT,Rep]; exact ⟨u,_,rfl,hx,_,_,rfl,rfl,rfl⟩⟩
 cases hd : P.underlying t with
 | none => simp [Program.concrete,hd] at hT
 | some d =>
  cases x <;> simp only [Option.some.injEq,reduceCtorEq] at hv
  case nili =>
   subst hv
   simp only [Rep] at hx
   subst hx
   refine ⟨_,?_,fin zero z false hzr'⟩
   cases d <;> first | (simp [Program.concrete,hd] at hT; done) | simp [Instr.typeAssert,run_underlying hd,run_zeroValue hi hz]
  case iface t' y =>
   simp only [Rep] at hx
   obtain ⟨u,rfl,hy⟩:=hx
   by_cases htt : t' = t
   ·subst htt
    simp only [if_true] at hv
    subst hv
    refine ⟨_,?_,fin y u true hy⟩
    cases d <;> first | (simp [Program.concrete,hd] at hT; done) | simp [Instr.typeAssert,run_underlying hd]
   ·rw [if_neg htt] at hv
    subst hv
    refine ⟨_,?_,fin zero z false hzr'⟩
    cases d <;> first | (simp [Program.concrete,hd] at hT; done) | simp [Instr.typeAssert,run_underlying hd,htt,run_zeroValue hi hz]
end ops
end Go.Proofs.YtmeakjgbjldkdaaGreat.Ai
namespace Go.Proofs.YtmeakjgbjldkdaaGreat.Ai
open Go
variable {P : Program} {K : Ghost} {S : St} {w : World} {e : Slots} {a : Act} {v : AV}
theorem q_mkList {T : TypeId} {n sz : Nat} {ps : Array (Nat × Operand)} {xs : List Opd} {vs : List AV} {rows : List (List AV)} (R : Rel K S w) (E : EnvRep K e a.tmps)
  (hT : zsliceB P T sz = true) (hs : seqB 0 ps.toList xs = true) (hn : xs.length = n) (hb : n * sz ≤ 16777216) (h0 : 0 < sz) (hv : vals xs e = some vs) (hr : rowsOf sz vs = some rows) (X : Nat → Prop) :
  ∃ v' K' w',(Instr.buildSlice T n (ps.map fun (i,x) => (i,a.eval x))).run P w = .ok v' w' ∧ Rep K' (.list sz .full rows) v' ∧ Rel K' S w' ∧ Step K X w K' w':=by
 obtain ⟨el,ti,z,hu,hi,hsz,hz,hzs⟩:=zsliceB_spec hT
 obtain ⟨fl,hfl,hrf,hrl,hall⟩:=rowsOf_flat hr
 have hvl : vs.length = n:=by
  rw [← hn]
  clear hs hr hrl hfl hn hb
  induction xs generalizing vs with
  | nil => simp only [vals,Option.some.injEq] at hv; subst hv; rfl
  | cons x xs ih =>
   simp only [vals] at hv
   cases hx : x.val e with
   | none => simp [hx] at hv
   | some u =>
    cases hxs : vals xs e with
    | none => simp [hx,hxs] at hv
    | some us =>
     simp only [hx,hxs,Option.some.injEq] at hv
     subst hv
     simp [ih hxs]
 by_cases hn0 : n = 0
 ·
  have hvs : vs = []:=by cases vs <;> simp_all
  have hrows : rows = []:=by cases rows <;> simp_all
  have hps : ps = #[]:=by
   have : xs = []:=by cases xs <;> simp_all
   subst this
   cases hl : ps.toList with
   | nil => simpa using hl
   | cons y ys => rw [hl] at hs; simp [seqB] at hs
  subst hps
  subst hrows
  subst hn0
  obtain ⟨K',⟨hg,ha0⟩,hm,R',hst⟩:=new_row R #[] el
  refine ⟨.slice (some ⟨w.heap.size,0,none⟩) 0 0,K',_,?_,?_,R',hst X⟩
  ·simp [Instr.buildSlice,run_underlying hu,run_sizeOf hi,Instr.fill,newRow,show Array.range 0 = #[] from rfl]
  ·simp only [Rep]
   exact ⟨_,0,rfl,by simp,by simp,.inr ⟨w.heap.size,0,[],rfl,⟨[],by simpa using hg,by simp⟩,by simp [RepLL],⟨fun x hx => (by rw [ha0] at hx; cases hx),by simp [Ghost.tagIn]⟩⟩⟩
 ·have hmul : n * sz ≠ 0:=by
   intro h
   rcases Nat.mul_eq_zero.1 h with h | h <;> omega
  obtain ⟨cells,hf,new,hnew,hrep⟩:=seq_fill E (sz:=sz) 0 ((Array.range (n * sz)).map (z.cells[· % z.cells.size]!)) [] hs hv hfl (by simp) (by simp) (by simp [hvl])
  have hnew' : cells.toList = new:=by simpa using hnew
  obtain ⟨K',⟨hg,ha0⟩,hm,R',hst⟩:=new_row R cells el
  refine ⟨.slice (some ⟨w.heap.size,0,none⟩) n n,K',_,?_,?_,R',hst X⟩
  ·have hf' : Instr.fill (fun i => some (i * ti.size,ti.size)) ((Array.range (n * ti.size)).map (z.cells[· % z.cells.size]!)) (ps.map fun (i,x) => (i,a.eval x)).toList = some cells:=by
    rw [hsz]; simpa using hf
   have hb' : ¬ (16777216 < n * ti.size):=by rw [hsz]; omega
   have hm' : ¬ (n * ti.size = 0):=by rw [hsz]; exact hmul
   simp only [Instr.buildSlice,Sem.run_bind,run_underlying hu,Result.andThen_ok,run_sizeOf hi,gt_iff_lt,Sem.run_ite]
   rw [if_neg (by simpa using hb')]
   simp only [Sem.run_pure,Result.andThen_ok]
   rw [if_neg hm']
   simp only [run_zeroValue hi hz,Result.andThen_ok]
   rw [hf']
   simp [newRow]
  ·simp only [Rep]
   have hx:=(hst (fun _ => False)).ext
   refine ⟨_,n,by rw [hrl,hvl],by rw [hrl,hvl]; exact Nat.le_refl _,hall,.inr ⟨w.heap.size,0,cells.toList,rfl,⟨cells.toList,hg,by rw [List.drop_zero,List.take_of_length_le (Nat.le_refl _)]⟩,?_,⟨fun x hx => (by rw [ha0] at hx; cases hx),show n = rows.length by omega⟩⟩⟩
   rw [RepLL.flat,hrf,hnew']
   exact (RepL.ext hx _ _ hrep).canon
theorem q_alloc {T : TypeId} {n : Nat} {zs cs : List AV} (R : Rel K S w) (hT : zeroB P T zs = true) (hS : S.heap[n]? = some (.cells cs)) (hcs : cs = zs) (hm : K.m n = none) :
  ∃ v' K' w',(Instr.alloc T true (.tuple #[])).run P w = .ok v' w' ∧ Rep K' (.ptr n 0) v' ∧ Rel K' S w' ∧ Step K (fun k => k ≠ n) w K' w':=by
 obtain ⟨i,z,hi,hz,hr,_⟩:=zeroB_spec K hT
 subst hcs
 obtain ⟨K',hx,hm',R',hst⟩:=new_named R (t:=T) hm hS hr
 refine ⟨.pointer (some ⟨w.heap.size,0,none⟩),K',_,?_,?_,R',hst⟩
 ·simp [Instr.alloc,run_zeroValue hi hz,newVar,newRow]
 ·simp only [Rep]
  exact ⟨_,hm',rfl⟩
mutual
theorem eq_of_beq : ∀ (a b : AV),AV.beq a b = true → a = b
 | .ref a,.ref b,h => by simp only [AV.beq] at h; rw [eq_of_beqL a b h]
 | .agg a,.agg b,h => by simp only [AV.beq] at h; rw [eq_of_beqL a b h]
 | .tup a,.tup b,h => by simp only [AV.beq] at h; rw [eq_of_beqL a b h]
 | .iface t a,.iface u b,h => by
  simp only [AV.beq,Bool.and_eq_true,beq_iff_eq] at h
  rw [h.1,eq_of_beq a b h.2]
 | .list a t r,.list b u s,h => by
  simp only [AV.beq,Bool.and_eq_true,beq_iff_eq] at h
  rw [h.1.1,h.1.2,eq_of_beqLL r s h.2]
 | .func f a b,.func g c d,h => by
  simp only [AV.beq,Bool.and_eq_true,beq_iff_eq] at h
  rw [h.1.1,eq_of_beqL a c h.1.2,eq_of_beqL b d h.2]
 | .bool a,b,h => by cases b <;> simp [AV.beq] at h; rw [h]
 | .int k a,b,h => by cases b <;> simp [AV.beq] at h; rw [h.1,h.2]
 | .str a,b,h => by cases b <;> simp [AV.beq] at h; rw [h]
 | .nilp,b,h => by cases b <;> simp [AV.beq] at h; rfl
 | .ptr _ _,b,h => by cases b <;> simp [AV.beq] at h; rw [h.1,h.2]
 | .arr _ _ _ _,b,h => by cases b <;> simp [AV.beq] at h; obtain ⟨⟨⟨h1,h2⟩,h3⟩,h4⟩:=h; rw [h1,h2,h3,h4]
 | .nilm,b,h => by cases b <;> simp [AV.beq] at h; rfl
 | .map _,b,h => by cases b <;> simp [AV.beq] at h; rw [h]
 | .nilf,b,h => by cases b <;> simp [AV.beq] at h; rfl
 | .nili,b,h => by cases b <;> simp [AV.beq] at h; rfl
 | .undef,b,h => by cases b <;> simp [AV.beq] at h; rfl
 | .ref _,.bool _,h | .ref _,.int _ _,h | .ref _,.str _,h | .ref _,.nilp,h | .ref _,.ptr _ _,h | .ref _,.list _ _ _,h | .ref _,.arr _ _ _ _,h | .ref _,.nilm,h | .ref _,.map _,h | .ref _,.nilf,h | .ref _,.func _ _ _,h | .ref _,.nili,h | .ref _,.iface _ _,h | .ref _,.agg _,h | .ref _,.tup _,h | .ref _,.undef,h => by simp [AV.beq] at h
 | .agg _,.bool _,h | .agg _,.int _ _,h | .agg _,.str _,h | .agg _,.nilp,h | .agg _,.ptr _ _,h | .agg _,.ref _,h | .agg _,.list _ _ _,h | .agg _,.arr _ _ _ _,h | .agg _,.nilm,h | .agg _,.map _,h | .agg _,.nilf,h | .agg _,.func _ _ _,h | .agg _,.nili,h | .agg _,.iface _ _,h | .agg _,.tup _,h | .agg _,.undef,h => by simp [AV.beq] at h
 | .tup _,.bool _,h | .tup _,.int _ _,h | .tup _,.str _,h | .tup _,.nilp,h | .tup _,.ptr _ _,h | .tup _,.ref _,h | .tup _,.list _ _ _,h | .tup _,.arr _ _ _ _,h | .tup _,.nilm,h | .tup _,.map _,h | .tup _,.nilf,h | .tup _,.func _ _ _,h | .tup _,.nili,h | .tup _,.iface _ _,h | .tup _,.agg _,h | .tup _,.undef,h => by simp [AV.beq] at h
 | .iface _ _,.bool _,h | .iface _ _,.int _ _,h | .iface _ _,.str _,h | .iface _ _,.nilp,h | .iface _ _,.ptr _ _,h | .iface _ _,.ref _,h | .iface _ _,.list _ _ _,h | .iface _ _,.arr _ _ _ _,h | .iface _ _,.nilm,h | .iface _ _,.map _,h | .iface _ _,.nilf,h | .iface _ _,.func _ _ _,h | .iface _ _,.nili,h | .iface _ _,.tup _,h | .iface _ _,.agg _,h | .iface _ _,.undef,h => by simp [AV.beq] at h
 | .list _ _ _,.bool _,h | .list _ _ _,.int _ _,h | .list _ _ _,.str _,h | .list _ _ _,.nilp,h | .list _ _ _,.ptr _ _,h | .list _ _ _,.ref _,h | .list _ _ _,.iface _ _,h | .list _ _ _,.arr _ _ _ _,h | .list _ _ _,.nilm,h | .list _ _ _,.map _,h | .list _ _ _,.nilf,h | .list _ _ _,.func _ _ _,h | .list _ _ _,.nili,h | .list _ _ _,.tup _,h | .list _ _ _,.agg _,h | .list _ _ _,.undef,h => by simp [AV.beq] at h
 | .func _ _ _,.bool _,h | .func _ _ _,.int _ _,h | .func _ _ _,.str _,h | .func _ _ _,.nilp,h | .func _ _ _,.ptr _ _,h | .func _ _ _,.ref _,h | .func _ _ _,.iface _ _,h | .func _ _ _,.arr _ _ _ _,h | .func _ _ _,.nilm,h | .func _ _ _,.map _,h | .func _ _ _,.nilf,h | .func _ _ _,.list _ _ _,h | .func _ _ _,.nili,h | .func _ _ _,.tup _,h | .func _ _ _,.agg _,h | .func _ _ _,.undef,h => by simp [AV.beq] at h
theorem eq_of_beqL : ∀ (a b : List AV),AV.beqL a b = true → a = b
 | [],[],_ => rfl
 | a :: as,b :: bs,h => by simp only [AV.beqL,Bool.and_eq_true] at h; rw [eq_of_beq a b h.1,eq_of_beqL as bs h.2]
 | [],_ :: _,h => by simp [AV.beqL] at h
 | _ :: _,[],h => by simp [AV.beqL] at h
theorem eq_of_beqLL : ∀ (a b : List (List AV)),AV.beqLL a b = true → a = b
 | [],[],_ => rfl
 | a :: as,b :: bs,h => by simp only [AV.beqLL,Bool.and_eq_true] at h; rw [eq_of_beqL a b h.1,eq_of_beqLL as bs h.2]
 | [],_ :: _,h => by simp [AV.beqLL] at h
 | _ :: _,[],h => by simp [AV.beqLL] at h
end
mutual
theorem beq_self : ∀ (a : AV),AV.beq a a = true
 | .ref a => by simp only [AV.beq]; exact beqL_self a
 | .agg a => by simp only [AV.beq]; exact beqL_self a
 | .tup a => by simp only [AV.beq]; exact beqL_self a
 | .iface t a => by simp only [AV.beq,beq_self_eq_true,Bool.true_and]; exact beq_self a
 | .list a t r => by simp only [AV.beq,beq_self_eq_true,Bool.true_and]; exact beqLL_self r
 | .func f a b => by simp only [AV.beq,beq_self_eq_true,Bool.true_and,beqL_self a,beqL_self b]
 | .bool a => by simp [AV.beq]
 | .int k a => by simp [AV.beq]
 | .str a => by simp [AV.beq]
 | .nilp => rfl
 | .ptr _ _ => by simp [AV.beq]
 | .arr _ _ _ _ => by simp [AV.beq]
 | .nilm => rfl
 | .map _ => by simp [AV.beq]
 | .nilf => rfl
 | .nili => rfl
 | .undef => rfl
theorem beqL_self : ∀ (a : List AV),AV.beqL a a = true
 | [] => rfl
 | a :: as => by simp only [AV.beqL,beq_self a,beqL_self as,Bool.and_self]
theorem beqLL_self : ∀ (a : List (List AV)),AV.beqLL a a = true
 | [] => rfl
 | a :: as => by simp only [AV.beqLL,beqL_self a,beqLL_self as,Bool.and_self]
end
def QOp.makes (base : Nat) : QOp → Nat → Prop
 | .alloc j _,n => n = base + j
 | _,_ => False
theorem qsim {o : Oper} {q : QOp} {base : Nat} (hc : chkQ P o.op q = true) (R : Rel K S w) (E : EnvRep K e a.tmps) (hv : qval q e S.heap base = some v) (hal : ∀ n,q.makes base n → K.m n = none) :
  ∃ v' K' w',(execOp a.eval o).run P w = .ok (.value v') w' ∧ Rep K' v v' ∧ Rel K' S w' ∧ Step K (fun n => ¬ q.makes base n) w K' w':=by
 have still : ∀ {s : Sem Value},Still P K w v s → ∃ v' K' w',(do pure (.value (← s)) : Sem Next).run P w = .ok (.value v') w' ∧ Rep K' v v' ∧ Rel K' S w' ∧ Step K (fun n => ¬ q.makes base n) w K' w':=by
  rintro s ⟨v',h1,h2⟩
  exact ⟨v',K,w,by simp [h1],h2,R,Step.refl _ _ _⟩
 obtain ⟨dst,op,type,pos,after,guard⟩:=o
 simp only at hc
 unfold chkQ at hc
 split at hc
 ·
  simp only [qval] at hv
  exact ⟨_,K,w,by simp [execOp],opd_spec E hc hv,R,Step.refl _ _ _⟩
 ·simp only [qval] at hv
  exact ⟨_,K,w,by simp [execOp],opd_spec E hc hv,R,Step.refl _ _ _⟩
 ·
  simp only [Bool.and_eq_true] at hc
  obtain ⟨⟨h1,h2⟩,h3⟩:=hc
  simp only [qval] at hv
  split at hv
  ·rename_i hcv
   have hb:=opd_spec E h1 hcv
   simp only [Rep] at hb
   exact ⟨_,K,w,by simp [execOp,hb,asBool],opd_spec E h2 hv,R,Step.refl _ _ _⟩
  ·rename_i hcv
   have hb:=opd_spec E h1 hcv
   simp only [Rep] at hb
   exact ⟨_,K,w,by simp [execOp,hb,asBool],opd_spec E h3 hv,R,Step.refl _ _ _⟩
  ·simp at hv
 ·
  rename_i T j zs
  simp only [qval] at hv
  split at hv
  ·rename_i cs hS
   split at hv
   ·rename_i hbq
    simp only [Option.some.injEq] at hv
    subst hv
    obtain ⟨v',K',w',h1,h2,h3,h4⟩:=q_alloc (P:=P) (T:=T) R hc hS (eq_of_beqL _ _ hbq) (hal _ rfl)
    exact ⟨v',K',w',by simp [execOp,h1],h2,h3,h4.mono (fun n hn => hn)⟩
   ·simp at hv
  ·simp at hv
 ·
  split at hc
  ·rename_i fs hu
   split at hc
   ·rename_i places hp
    simp only [Bool.and_eq_true] at hc
    obtain ⟨hz,hps⟩:=hc
    obtain ⟨it,z,hit,hiz,hrz,_⟩:=zeroB_spec K hz
    simp only [qval,Option.map_eq_some_iff] at hv
    obtain ⟨cs',hf,rfl⟩:=hv
    obtain ⟨vs',hf',hr'⟩:=fill_sim E hps hrz hf
    refine still ⟨.agg vs',?_,by simp only [Rep]; exact ⟨vs'.toList,by simp,hr'⟩⟩
    refine run_build w _ _ vs' ?_
    unfold Program.built
    simp only [hit,hu,hiz,hp]
    simpa using hf'
   ·simp at hc
  ·simp at hc
 ·
  simp only [Bool.and_eq_true,beq_iff_eq,decide_eq_true_eq] at hc
  obtain ⟨⟨⟨⟨h1,h2⟩,h3⟩,h4⟩,h5⟩:=hc
  simp only [qval] at hv
  split at hv
  ·rename_i vs hvs
   simp only [Option.map_eq_some_iff] at hv
   obtain ⟨rows,hr,rfl⟩:=hv
   obtain ⟨v',K',w',g1,g2,g3,g4⟩:=q_mkList (P:=P) R E h1 h2 h3 h4 h5 hvs hr _
   exact ⟨v',K',w',by simp [execOp,g1],g2,g3,g4⟩
  ·simp at hv
 ·
  simp only [Bool.and_eq_true] at hc
  simp only [qval] at hv
  split at hv
  ·rename_i x hx
   obtain ⟨v',h1,h2⟩:=load_sim (P:=P) R hc.1 (opd_spec E hc.2 hx) hv
   exact still ⟨v',h1,h2⟩
  ·simp at hv
 ·
  simp only [qval] at hv
  split at hv
  ·rename_i n o hx
   have hr:=opd_spec E hc hx
   simp only [Option.some.injEq] at hv
   subst hv
   have hr':=hr
   simp only [Rep] at hr'
   obtain ⟨B,_,hb⟩:=hr'
   exact ⟨_,K,w,by simp [execOp,hb],hb ▸ hr,R,Step.refl _ _ _⟩
  ·rename_i cs hx
   have hr:=opd_spec E hc hx
   simp only [Option.some.injEq] at hv
   subst hv
   have hr':=hr
   simp only [Rep] at hr'
   obtain ⟨B,o,vs,hb,_⟩:=hr'
   exact ⟨_,K,w,by simp [execOp,hb],hb ▸ hr,R,Step.refl _ _ _⟩
  ·simp at hv
 ·
  simp only [Bool.and_eq_true,beq_iff_eq] at hc
  obtain ⟨⟨⟨rfl,h2⟩,h3⟩,h4⟩:=hc
  simp only [qval] at hv
  split at hv
  ·rename_i x y hx hy
   obtain ⟨v',g1,g2⟩:=q_bin (P:=P) (w:=w) h4 (opd_spec E h2 hx) (opd_spec E h3 hy) hv
   exact still ⟨v',g1,g2⟩
  ·simp at hv
 ·
  simp only [qval] at hv
  split at hv
  ·rename_i b hx
   have hr:=opd_spec E hc hx
   simp only [Rep] at hr
   simp only [Option.some.injEq] at hv
   subst hv
   exact still ⟨.bool (!b),by simp [hr,Op.unary],by simp [Rep]⟩
  ·simp at hv
 ·
  simp only [qval] at hv
  split at hv
  ·rename_i k n hx
   have hr:=opd_spec E hc hx
   simp only [Rep] at hr
   simp only [Option.some.injEq] at hv
   subst hv
   exact still ⟨.int k (k.wrap (0 - n)),by simp [hr,Op.unary,Op.intArith],by simp [Rep]⟩
  ·simp at hv
 ·
  simp only [Bool.and_eq_true] at hc
  obtain ⟨⟨h1,h2⟩,h3⟩:=hc
  simp only [qval] at hv
  split at hv
  ·rename_i k0 n hx
   have hr:=opd_spec E h3 hx
   simp only [Rep] at hr
   simp only [Option.some.injEq] at hv
   subst hv
   split at h2
   ·rename_i k' hu
    simp only [beq_iff_eq] at h2
    subst h2
    refine still ⟨_,by rw [hr]; exact q_conv h1 hu,by simp [Rep]⟩
   ·simp at h2
  ·simp at hv
 ·simp only [Bool.and_eq_true] at hc
  obtain ⟨⟨h1,h2⟩,h3⟩:=hc
  simp only [qval] at hv
  split at hv
  ·rename_i s hx
   have hr:=opd_spec E h3 hx
   have hr':=hr
   simp only [Rep] at hr'
   simp only [Option.some.injEq] at hv
   subst hv
   refine still ⟨_,by rw [hr']; exact q_convS h1 (isStr_spec h2),by simp [Rep]⟩
  ·simp at hv
 ·
  simp only [Bool.and_eq_true,beq_iff_eq] at hc
  obtain ⟨⟨rfl,h2⟩,h3⟩:=hc
  simp only [qval,Option.map_eq_some_iff] at hv
  obtain ⟨x,hx,rfl⟩:=hv
  exact still ⟨_,run_makeInterface w _ _ h2,by simp only [Rep]; exact ⟨_,rfl,opd_spec E h3 hx⟩⟩
 ·
  simp only [Bool.and_eq_true,beq_iff_eq] at hc
  obtain ⟨⟨rfl,h2⟩,h3⟩:=hc
  simp only [qval] at hv
  split at hv
  ·rename_i x y hx hy
   simp only [Option.some.injEq] at hv
   subst hv
   have r1:=opds_spec E h2 hx
   have r2:=opds_spec E h3 hy
   refine still ⟨_,by simp only [Instr.makeFunc]; rfl,?_⟩
   simp only [Rep]
   exact ⟨_,_,by rw [← Array.toList_map,← Array.toList_map],r1,r2⟩
  ·simp at hv
 ·
  simp only [Bool.and_eq_true] at hc
  obtain ⟨⟨⟨h1,h2⟩,h3⟩,h4⟩:=hc
  simp only [qval] at hv
  split at hv
  ·rename_i x l h hx hl hh
   obtain ⟨v',g1,g2⟩:=q_slice (P:=P) (w:=w) h1 (opd_spec E h2 hx) (optIx_spec E h3 hl) (optIx_spec E h4 hh) hv
   exact still ⟨v',by simpa using g1,g2⟩
  ·simp at hv
 ·
  simp only [Bool.and_eq_true] at hc
  obtain ⟨⟨⟨h1,h2⟩,h3⟩,h4⟩:=hc
  simp only [qval] at hv
  split at hv
  ·rename_i x l h hx hl hh
   obtain ⟨v',g1,g2⟩:=q_sliceS (P:=P) (w:=w) h1 (opd_spec E h2 hx) (optIx_spec E h3 hl) (optIx_spec E h4 hh) hv
   exact still ⟨v',by simpa using g1,g2⟩
  ·simp at hv
 ·
  split at hc
  ·rename_i fd hs
   simp only [Bool.and_eq_true,beq_iff_eq] at hc
   obtain ⟨⟨h1,h2⟩,h3⟩:=hc
   split at h2
   ·rename_i i hi
    simp only [qval] at hv
    split at hv
    ·rename_i n o hx
     obtain ⟨v',g1,g2⟩:=q_fieldAddr (P:=P) (w:=w) hs h1 hi (by simpa using h2) (opd_spec E h3 hx) hv
     exact still ⟨v',g1,g2⟩
    ·rename_i cs hx
     obtain ⟨v',g1,g2⟩:=q_fieldAddr (P:=P) (w:=w) hs h1 hi (by simpa using h2) (opd_spec E h3 hx) hv
     exact still ⟨v',g1,g2⟩
    ·simp at hv
   ·simp at h2
  ·simp at hc
 ·
  split at hc
  ·rename_i fd hs
   simp only [Bool.and_eq_true,beq_iff_eq] at hc
   obtain ⟨⟨h1,h2⟩,h3⟩:=hc
   simp only [qval] at hv
   split at hv
   ·rename_i cs hx
    obtain ⟨v',g1,g2⟩:=q_field (P:=P) (w:=w) hs h1 h2 (opd_spec E h3 hx) hv
    exact still ⟨v',g1,g2⟩
   ·simp at hv
  ·simp at hc
 ·
  simp only [Bool.and_eq_true] at hc
  obtain ⟨⟨h1,h2⟩,h3⟩:=hc
  simp only [qval] at hv
  split at hv
  ·rename_i sz' tag rows k n hx hi
   have hr:=opd_spec E h3 hi
   simp only [Rep] at hr
   obtain ⟨v',g1,g2⟩:=q_indexAddr (P:=P) (w:=w) h1 (opd_spec E h2 hx) hr hv
   exact still ⟨v',g1,g2⟩
  ·rename_i m off sz' len k n hx hi
   have hr:=opd_spec E h3 hi
   simp only [Rep] at hr
   obtain ⟨v',g1,g2⟩:=q_indexAddr (P:=P) (w:=w) h1 (opd_spec E h2 hx) hr hv
   exact still ⟨v',g1,g2⟩
  ·simp at hv
 ·
  simp only [Bool.and_eq_true] at hc
  obtain ⟨⟨h1,h2⟩,h3⟩:=hc
  simp only [qval] at hv
  split at hv
  ·rename_i s k n hx hi
   have hr:=opd_spec E h3 hi
   have hr2:=opd_spec E h2 hx
   simp only [Rep] at hr hr2
   simp only [Option.ite_none_right_eq_some,Option.map_eq_some_iff] at hv
   obtain ⟨h0,b,hb,rfl⟩:=hv
   exact still ⟨_,by rw [hr,hr2]; exact q_index h1 h0 hb,by simp [Rep]⟩
  ·simp at hv
 ·
  split at hc
  ·rename_i et hT
   simp only [Bool.and_eq_true,beq_iff_eq] at hc
   obtain ⟨⟨⟨h1,rfl⟩,h2⟩,h3⟩:=hc
   split at h1
   ·rename_i i hi
    split at h1
    ·rename_i z hz
     simp only [qval] at hv
     split at hv
     ·rename_i n s hm hk
      have hr:=opd_spec E h3 hk
      simp only [Rep] at hr
      obtain ⟨v',g1,g2⟩:=q_lookup (P:=P) (w:=w) (s:=s) R hT hi hz h1 (opd_spec E h2 hm) hv
      exact still ⟨v',by rw [hr]; exact g1,g2⟩
     ·rename_i s hm hk
      have hr:=opd_spec E h3 hk
      simp only [Rep] at hr
      obtain ⟨v',g1,g2⟩:=q_lookup (P:=P) (w:=w) (s:=s) R hT hi hz h1 (opd_spec E h2 hm) hv
      exact still ⟨v',by rw [hr]; exact g1,g2⟩
     ·simp at hv
    ·simp at h1
   ·simp at h1
  ·simp at hc
 ·
  simp only [Bool.and_eq_true,beq_iff_eq] at hc
  obtain ⟨⟨⟨rfl,h2⟩,h3⟩,h4⟩:=hc
  split at h3
  ·rename_i i hi
   split at h3
   ·rename_i z hz
    simp only [qval] at hv
    split at hv
    ·rename_i t' y hx
     obtain ⟨v',g1,g2⟩:=q_tassert (P:=P) (w:=w) h2 hi hz h3 (opd_spec E h4 hx) hv
     exact still ⟨v',g1,g2⟩
    ·rename_i hx
     obtain ⟨v',g1,g2⟩:=q_tassert (P:=P) (w:=w) h2 hi hz h3 (opd_spec E h4 hx) hv
     exact still ⟨v',g1,g2⟩
    ·simp at hv
   ·simp at h3
  ·simp at h3
 ·
  simp only [Bool.and_eq_true,beq_iff_eq] at hc
  obtain ⟨rfl,h2⟩:=hc
  simp only [qval] at hv
  split at hv
  ·rename_i vs hx
   have hr:=opd_spec E h2 hx
   simp only [Rep] at hr
   obtain ⟨us,hu,hr⟩:=hr
   obtain ⟨u,h1,h2⟩:=hr.get _ _ hv
   exact still ⟨u,by simp [Instr.extract,hu,h1],h2⟩
  ·simp at hv
 ·
  rename_i c y
  split at hc
  ·rename_i hcal
   split at hc
   ·rename_i x t hargs ht
    simp only [Bool.and_eq_true] at hc
    obtain ⟨h1,h2⟩:=hc
    split at h1
    ·rename_i el hu
     have hargs' : c.args = #[x]:=by
      apply Array.ext'
      simpa using hargs
     have hrun : ∀ (u : Value),(execOp a.eval {dst:=dst,op:=.call c,type:=type,pos:=pos,after:=after,guard:=guard}).run P w = ((Builtin.len_ c.argTypes type #[a.eval x]).run P w).andThen fun v w => .ok (.value v) w:=by
      intro u
      simp [execOp,resolve,hcal,hargs',invoke,builtin]
     simp only [qval] at hv
     split at hv
     ·rename_i sz tag rows hx
      have hr:=opd_spec E h2 hx
      simp only [Rep] at hr
      obtain ⟨bs,cap,hb,_⟩:=hr
      simp only [Option.some.injEq] at hv
      subst hv
      refine ⟨goInt rows.length,K,w,?_,by simp [Rep,i64,goInt],R,Step.refl _ _ _⟩
      rw [hrun (.bool true),hb]
      simp [Builtin.len_,ht,run_underlying hu]
     ·rename_i m off sz len hx
      have hr:=opd_spec E h2 hx
      simp only [Rep] at hr
      obtain ⟨B,cap,_,_,hb⟩:=hr
      simp only [Option.some.injEq] at hv
      subst hv
      refine ⟨goInt len,K,w,?_,by simp [Rep,i64,goInt],R,Step.refl _ _ _⟩
      rw [hrun (.bool true),hb]
      simp [Builtin.len_,ht,run_underlying hu]
     ·simp at hv
    ·simp at h1
   ·simp at hc
  ·simp at hc
 ·
  rename_i c y
  split at hc
  ·rename_i hcal
   split at hc
   ·rename_i x t hargs ht
    simp only [Bool.and_eq_true] at hc
    obtain ⟨h1,h2⟩:=hc
    have hargs' : c.args = #[x]:=by
     apply Array.ext'
     simpa using hargs
    have hrun : (execOp a.eval {dst:=dst,op:=.call c,type:=type,pos:=pos,after:=after,guard:=guard}).run P w = ((Builtin.len_ c.argTypes type #[a.eval x]).run P w).andThen fun v w => .ok (.value v) w:=by
     simp [execOp,resolve,hcal,hargs',invoke,builtin]
    simp only [qval] at hv
    split at hv
    ·rename_i s hx
     have hr:=opd_spec E h2 hx
     simp only [Rep] at hr
     simp only [Option.some.injEq] at hv
     subst hv
     refine ⟨goInt s.length,K,w,?_,by simp [Rep,i64,goInt],R,Step.refl _ _ _⟩
     rw [hrun,hr]
     simp [Builtin.len_,ht,run_underlying (isStr_spec h1),size_mk]
    ·simp at hv
   ·simp at hc
  ·simp at hc
 ·
  rename_i c x' y'
  split at hc
  ·rename_i hcal
   split at hc
   ·rename_i x y hargs
    simp only [Bool.and_eq_true] at hc
    obtain ⟨h1,h2⟩:=hc
    have hargs' : c.args = #[x,y]:=by
     apply Array.ext'
     simpa using hargs
    simp only [qval] at hv
    split at hv
    ·rename_i p q hx hy
     have hr:=opd_spec E h1 hx
     have hr2:=opd_spec E h2 hy
     simp only [Rep] at hr hr2
     simp only [Option.some.injEq] at hv
     subst hv
     refine ⟨.int .i64 (if q < p then q else p),K,w,?_,by simp [Rep],R,Step.refl _ _ _⟩
     simp only [execOp,resolve,hcal,hargs',invoke,builtin,List.map_toArray,List.map_cons,List.map_nil,hr,hr2,Builtin.min_,List.foldlM_cons,List.foldlM_nil,Builtin.min2,Sem.run_bind,Sem.run_pure,Result.andThen_ok]
    ·simp at hv
   ·simp at hc
  ·simp at hc
 ·simp at hc
end Go.Proofs.YtmeakjgbjldkdaaGreat.Ai
namespace Go.Proofs.YtmeakjgbjldkdaaGreat.Ai
open Go
variable {P : Program} {K : Ghost} {S : St} {w : World} {e : Slots} {a : Act} {v : AV}
structure Wr (w w' : World) (B : Nat) (vs : Array Value) (t : TypeId) : Prop where
 os : w'.os = w.os
 tape : w'.tape = w.tape
 output : w'.output = w.output
 size : w'.heap.size = w.heap.size
 block : w'.heap[B]? = some (.cells vs t (0,0))
 other : ∀ k,k ≠ B → w'.heap[k]? = w.heap[k]?
theorem Wr.setCells {B : Nat} {t : TypeId} : ∀ (vs : List Value) (o : Nat) (w : World) (cur : Array Value),w.heap[B]? = some (.cells cur t (0,0)) → o + vs.length ≤ cur.size →
  ∃ cur',Wr w (w.setCells B o vs) B cur' t ∧ cur'.toList = cur.toList.take o ++ vs ++ cur.toList.drop (o + vs.length) ∧ cur'.size = cur.size
 | [],o,w,cur,h,_ => ⟨cur,⟨rfl,rfl,rfl,rfl,h,fun _ _ => rfl⟩,by simp,rfl⟩
 | v :: vs,o,w,cur,h,hle => by
  simp only [List.length_cons] at hle
  have hB:=(Array.getElem?_eq_some_iff.1 h).1
  have h1 : (w.setCell ⟨B,o,none⟩ v).heap[B]? = some (.cells (cur.setIfInBounds o v) t (0,0)):=by
   simp only [World.setCell,Array.getElem?_modify,h]
   simp
  obtain ⟨cur',hw,hl,hs⟩:=Wr.setCells vs (o + 1) (w.setCell ⟨B,o,none⟩ v) _ h1 (by simp; omega)
  refine ⟨cur',⟨hw.os,hw.tape,hw.output,?_,hw.block,?_⟩,?_,by rw [hs]; simp⟩
  ·rw [World.setCells,hw.size]; simp [World.setCell]
  ·intro k hk
   rw [World.setCells,hw.other k hk]
   simp only [World.setCell,Array.getElem?_modify]
   rw [if_neg (fun h => hk h.symm)]
  ·rw [hl]
   have hlt : o < cur.toList.length:=by simp; omega
   have e1 : (cur.setIfInBounds o v).toList = cur.toList.take o ++ v :: cur.toList.drop (o + 1):=by
    simp only [Array.toList_setIfInBounds]
    rw [List.set_eq_take_append_cons_drop,if_pos hlt]
   have hl' : (cur.toList.take o).length = o:=by simp; omega
   rw [e1]
   have t1 : List.take (o + 1) (cur.toList.take o ++ v :: cur.toList.drop (o + 1)) = cur.toList.take o ++ [v]:=by
    rw [List.take_append,List.take_of_length_le (by omega),hl']
    simp
   have t2 : List.drop (o + 1 + vs.length) (cur.toList.take o ++ v :: cur.toList.drop (o + 1)) = cur.toList.drop (o + (v :: vs).length):=by
    rw [List.drop_append,List.drop_of_length_le (by rw [hl']; omega),hl']
    rw [show o + 1 + vs.length - o = vs.length + 1 by omega]
    simp only [List.drop_succ_cons,List.drop_drop,List.nil_append,List.length_cons]
    congr 1; omega
   rw [t1,t2]
   simp
theorem Rel.write {n B : Nat} {blk : Blk} {vs' : Array Value} {t : TypeId} {cs' : List AV} {w' : World} (R : Rel K S w) (hm : K.m n = some B) (hb : S.heap[n]? = some blk)
  (hW : Wr w w' B vs' t) (hr : RepL K cs' vs'.toList) : Rel K {S with heap:=S.heap.set n (.cells cs')} w':=by
 have hn:=(List.getElem?_eq_some_iff.1 hb).1
 refine ⟨?_,R.inj,R.sep,?_,?_,?_,?_⟩
 ·intro k B' hk; simpa using R.dom k B' hk
 ·intro k B' cs hk hc
  by_cases hkn : k = n
  ·subst hkn
   rw [hm] at hk
   cases hk
   simp only [List.getElem?_set_self hn,Option.some.injEq,Blk.cells.injEq] at hc
   subst hc
   exact ⟨vs',t,hW.block,hr⟩
  ·rw [List.getElem?_set_ne (fun h => hkn h.symm)] at hc
   obtain ⟨us,t',h1,h2⟩:=R.cells k B' cs hk hc
   refine ⟨us,t',?_,h2⟩
   rw [hW.other B' (fun h => hkn (R.inj k n B (h ▸ hk) hm))]
   exact h1
 ·intro k B' es hk hc
  by_cases hkn : k = n
  ·subst hkn
   simp only [List.getElem?_set_self hn,Option.some.injEq,reduceCtorEq] at hc
  ·rw [List.getElem?_set_ne (fun h => hkn h.symm)] at hc
   obtain ⟨us,t',h1,h2⟩:=R.maps k B' es hk hc
   refine ⟨us,t',?_,h2⟩
   rw [hW.other B' (fun h => hkn (R.inj k n B (h ▸ hk) hm))]
   exact h1
 ·intro B' l hg
  obtain ⟨us,t',h1,h2⟩:=R.rows B' l hg
  refine ⟨us,t',?_,h2⟩
  rw [hW.other B' (fun h => by rw [h,R.sep n B hm] at hg; cases hg)]
  exact h1
 ·intro B' b E sz size ha
  obtain ⟨l,hg,⟨us,t',h1,h2⟩,hrow⟩:=R.grow B' b E sz size ha
  refine ⟨l,hg,⟨us,t',?_,h2⟩,hrow⟩
  rw [hW.other B' (fun h => by rw [h,R.sep n B hm] at hg; cases hg)]
  exact h1
theorem Step.write {n B : Nat} {vs' : Array Value} {t : TypeId} {w' : World} (hm : K.m n = some B) (hW : Wr w w' B vs' t) (X : Nat → Prop) : Step K X w K w':=
 ⟨Ext.refl K,hW.os,hW.tape,hW.output,Nat.le_of_eq hW.size.symm,fun B' _ h1 _ => hW.other B' (fun h => h1 n (h ▸ hm)),fun _ _ h1 h2 => ⟨h1,h2⟩,fun _ _ h => h,fun _ x h => .inl ⟨x,h⟩⟩
theorem l_store {T : TypeId} {k n off : Nat} {i : TypeInfo} {x : AV} {p x' : Value} {cs : List AV} (R : Rel K S w) (hi : P.info? T = some i) (hk : i.size = k) (hp : Rep K (.ptr n off) p) (hx : Rep K x x')
  (hb : S.heap[n]? = some (.cells cs)) (h1 : x.cells.length = k) (h2 : x.okv = true) (h3 : off + k ≤ cs.length) (X : Nat → Prop) :
  ∃ w',(Instr.storeAt T p x').run P w = .ok () w' ∧ Rel K {S with heap:=S.heap.set n (.cells (overlay cs off x.cells))} w' ∧ Step K X w K w':=by
 simp only [Rep] at hp
 obtain ⟨B,hm,rfl⟩:=hp
 obtain ⟨vs,t,hw,hr⟩:=R.cells n B cs hm hb
 have hc:=hx.cells h2
 have hcl:=hc.length
 have hrl:=hr.length
 simp only [Array.length_toList] at hcl hrl
 obtain ⟨cur',hW,hl,hs⟩:=Wr.setCells (B:=B) (t:=t) x'.cells.toList off w vs hw (by simp; omega)
 refine ⟨w.setCells B off x'.cells.toList,?_,?_,Step.write hm hW X⟩
 ·have h:=run_storeCells_cells (P:=P) B off x'.cells.toList 0 w (fun j hj => by rw [Nat.add_zero,cells_at hw]; simp at hj ⊢; omega) (fun j hj => free_at hw _) (fun u hu => hc.oneCell u hu)
  simp only [Nat.add_zero] at h
  simp only [Instr.storeAt,Instr.sureAddr,Sem.run_bind,Sem.run_pure,Result.andThen_ok,storeVar,run_sizeOf hi]
  rw [if_neg (by omega)]
  simpa using h
 ·refine R.write hm hb hW ?_
  rw [hl]
  exact RepL.overlay hr hc
theorem Rel.grow_heap (R : Rel K S w) (b : Blk) : Rel K {S with heap:=S.heap ++ [b]} w:=by
 refine ⟨?_,R.inj,R.sep,?_,?_,R.rows,R.grow⟩
 ·intro n B hm
  have:=R.dom n B hm
  simp; omega
 ·intro n B cs hm hb
  have:=R.dom n B hm
  rw [List.getElem?_append_left this] at hb
  exact R.cells n B cs hm hb
 ·intro n B es hm hb
  have:=R.dom n B hm
  rw [List.getElem?_append_left this] at hb
  exact R.maps n B es hm hb
theorem Rel.none_ge (R : Rel K S w) {n : Nat} (h : S.heap.length ≤ n) : K.m n = none:=by
 cases hm : K.m n with
 | none => rfl
 | some B => have:=R.dom n B hm; omega
theorem new_block (R : Rel K S w) {cs : List AV} {vs : Array Value} {t : TypeId} (hr : RepL K cs vs.toList) :
  ∃ K',K'.m S.heap.length = some w.heap.size ∧ Rel K' {S with heap:=S.heap ++ [.cells cs]} {w with heap:=w.heap.push (.cells vs t)} ∧ Step K (fun n => n < S.heap.length) w K' {w with heap:=w.heap.push (.cells vs t)}:=by
 obtain ⟨K',_,hm,R',hst⟩:=new_named (R.grow_heap (.cells cs)) (n:=S.heap.length) (t:=t) (R.none_ge (Nat.le_refl _)) (by simp) hr
 exact ⟨K',hm,R',hst.mono (fun n hn h => by omega)⟩
theorem Rel.more {B : Nat} {vs' : Array Value} {t : TypeId} {w' : World} {l new : List Value} {b E sz size n : Nat} (R : Rel K S w) (hg : K.g B = some l) (ha : K.a B = some (b,E,sz,size))
  (hS : S.rows[b]? = some E) (hl : new.length = n * sz) (hW : Wr w w' B vs' t) (hv : vs'.toList.take (l.length + new.length) = l ++ new) (hs : vs'.size = size) :
  ∃ K',K'.g B = some (l ++ new) ∧ K'.a B = some (b,E + n,sz,size) ∧ Rel K' {S with rows:=S.rows.set b (E + n)} w' ∧ ∀ X,Step K X w K' w':=by
 have hb:=(List.getElem?_eq_some_iff.1 hS).1
 have hx : Ext K {K with g:=fun B' => if B' = B then some (l ++ new) else K.g B',a:=fun B' => if B' = B then some (b,E + n,sz,size) else K.a B'}:=by
  refine ⟨fun _ _ h => h,fun B' l' h => ?_,fun B' b' E' sz' size' h => ?_,fun B' l' _ h => ?_⟩
  ·by_cases hB : B' = B
   ·subst hB; rw [hg] at h; cases h; exact ⟨new,by simp⟩
   ·exact ⟨[],by simp [hB,h]⟩
  ·by_cases hB : B' = B
   ·subst hB
    rw [ha] at h
    cases h
    refine ⟨E + n,by simp,by omega,fun l1 l2 h1 h2 => ?_⟩
    rw [hg] at h1
    cases h1
    simp only [if_true,Option.some.injEq] at h2
    subst h2
    simp [hl]
   ·refine ⟨E',by simp [hB,h],Nat.le_refl _,fun l1 l2 h1 h2 => ?_⟩
    simp only [if_neg hB] at h2
    rw [h1] at h2; cases h2; simp
  ·by_cases hB : B' = B
   ·subst hB; rw [ha] at h; cases h
   ·simp [hB,h]
 have hmB : ∀ k,K.m k ≠ some B:=fun k hk => by rw [R.sep k B hk] at hg; cases hg
 refine ⟨_,by simp,by simp,?_,fun X => ⟨hx,hW.os,hW.tape,hW.output,Nat.le_of_eq hW.size.symm,?_,?_,fun _ _ h => h,fun B' x hx' => .inl ?_⟩⟩
 ·refine ⟨R.dom,R.inj,?_,?_,?_,?_,?_⟩
  ·intro k B' hk
   have : B' ≠ B:=fun h => hmB k (h ▸ hk)
   simp only [if_neg this]
   exact R.sep k B' hk
  ·intro k B' cs hk hc
   obtain ⟨us,t',h1,h2⟩:=R.cells k B' cs hk hc
   exact ⟨us,t',by rw [hW.other B' (fun h => hmB k (h ▸ hk))]; exact h1,RepL.ext hx _ _ h2⟩
  ·intro k B' es hk hc
   obtain ⟨us,t',h1,h2⟩:=R.maps k B' es hk hc
   exact ⟨us,t',by rw [hW.other B' (fun h => hmB k (h ▸ hk))]; exact h1,h2.ext hx⟩
  ·intro B' l' hg'
   simp only at hg'
   split at hg'
   ·rename_i h
    subst h
    simp only [Option.some.injEq] at hg'
    subst hg'
    exact ⟨vs',t,hW.block,by rw [List.length_append]; exact hv⟩
   ·rename_i h
    obtain ⟨us,t',h1,h2⟩:=R.rows B' l' hg'
    exact ⟨us,t',by rw [hW.other B' h]; exact h1,h2⟩
  ·intro B' b' E' sz' size' ha'
   simp only at ha'
   split at ha'
   ·rename_i h
    subst h
    simp only [Option.some.injEq,Prod.mk.injEq] at ha'
    obtain ⟨rfl,rfl,rfl,rfl⟩:=ha'
    exact ⟨l ++ new,by simp,⟨vs',t,hW.block,hs⟩,E + n,by rw [List.getElem?_set_self hb],Nat.le_refl _⟩
   ·rename_i h
    obtain ⟨l',hg',⟨us,t',h1,h2⟩,r,hr,hle⟩:=R.grow B' b' E' sz' size' ha'
    refine ⟨l',by simp [h,hg'],⟨us,t',by rw [hW.other B' h]; exact h1,h2⟩,?_⟩
    by_cases hbb : b' = b
    ·subst hbb
     rw [hS] at hr
     cases hr
     exact ⟨E + n,by simp only; rw [List.getElem?_set_self hb],by omega⟩
    ·exact ⟨r,by simp only; rw [List.getElem?_set_ne (fun h => hbb h.symm)]; exact hr,hle⟩
 ·exact fun B' _ h1 h2 => hW.other B' (fun h => by rw [h,hg] at h2; cases h2)
 ·intro B' _ h1 h2
  refine ⟨h1,?_⟩
  have : B' ≠ B:=fun h => by rw [h,hg] at h2; cases h2
  simp only [if_neg this]
  exact h2
 ·simp only at hx'
  split at hx'
  ·rename_i h; exact ⟨_,h ▸ ha⟩
  ·exact ⟨_,hx'⟩
theorem Rel.more_new (R : Rel K S w) {S' : St} (hS : S'.heap = S.heap) (hrows : ∀ (b r : Nat),S.rows[b]? = some r → ∃ r' : Nat,S'.rows[b]? = some r' ∧ r ≤ r') (vs : Array Value) (t : TypeId) (l : List Value) (b E sz : Nat)
  (hv : vs.toList.take l.length = l) (hb : S'.rows[b]? = some E) :
  ∃ K',K'.g w.heap.size = some l ∧ K'.a w.heap.size = some (b,E,sz,vs.size) ∧ K'.m = K.m ∧ Rel K' S' {w with heap:=w.heap.push (.cells vs t)} ∧ ∀ X,Step K X w K' {w with heap:=w.heap.push (.cells vs t)}:=by
 have hg0 : K.g w.heap.size = none:=by
  cases hg : K.g w.heap.size with
  | none => rfl
  | some l => have:=R.lt_g hg; omega
 have hlt : ∀ B b E sz size,K.a B = some (b,E,sz,size) → B < w.heap.size:=fun B b E sz size ha => by
  obtain ⟨l,hg,_⟩:=R.grow _ _ _ _ _ ha
  exact R.lt_g hg
 have hx : Ext K {K with g:=fun B => if B = w.heap.size then some l else K.g B,a:=fun B => if B = w.heap.size then some (b,E,sz,vs.size) else K.a B}:=by
  refine ⟨fun k B hk => hk,fun B l hg => ⟨[],?_⟩,fun B b E sz size ha => ⟨E,?_,Nat.le_refl _,fun l l' h1 h2 => ?_⟩,fun B l hg h => ?_⟩
  ·have:=R.lt_g hg
   simp only [List.append_nil]
   rw [if_neg (by omega)]; exact hg
  ·have:=hlt _ _ _ _ _ ha
   simp only
   rw [if_neg (by omega)]; exact ha
  ·have:=R.lt_g h1
   simp only at h2
   rw [if_neg (by omega),h1] at h2; cases h2; simp
  ·have:=R.lt_g hg
   simp only
   rw [if_neg (by omega)]; exact h
 refine ⟨{K with g:=fun B => if B = w.heap.size then some l else K.g B,a:=fun B => if B = w.heap.size then some (b,E,sz,vs.size) else K.a B},by simp,by simp,rfl,?_,fun X => ⟨hx,rfl,rfl,rfl,by simp,?_,?_,fun _ _ h => h,fun B' x hx' => ?_⟩⟩
 ·refine ⟨?_,R.inj,?_,?_,?_,?_,?_⟩
  ·intro n B hk; rw [hS]; exact R.dom n B hk
  ·intro k B hk
   have:=R.lt_m hk
   simp only
   rw [if_neg (by omega)]; exact R.sep k B hk
  ·intro k B cs hk hb
   have hlt:=R.lt_m hk
   rw [hS] at hb
   obtain ⟨vs',t',hw,hr'⟩:=R.cells k B cs hk hb
   exact ⟨vs',t',by rw [heap_push,if_neg (by omega)]; exact hw,RepL.ext hx _ _ hr'⟩
  ·intro k B es hk hb
   have hlt:=R.lt_m hk
   rw [hS] at hb
   obtain ⟨ms,ck,hw,hr'⟩:=R.maps k B es hk hb
   exact ⟨ms,ck,by rw [heap_push,if_neg (by omega)]; exact hw,hr'.ext hx⟩
  ·intro B l' hg
   simp only at hg
   rw [heap_push]
   split at hg
   ·rename_i h
    simp only [Option.some.injEq] at hg
    subst hg
    exact ⟨vs,t,by simp [h],hv⟩
   ·have hlt:=R.lt_g hg
    obtain ⟨vs',t',hw,ht⟩:=R.rows B l' hg
    exact ⟨vs',t',by rw [if_neg (by omega)]; exact hw,ht⟩
  ·intro B b' E' sz' size' ha
   simp only at ha
   split at ha
   ·rename_i h
    subst h
    simp only [Option.some.injEq,Prod.mk.injEq] at ha
    obtain ⟨rfl,rfl,rfl,rfl⟩:=ha
    exact ⟨l,by simp,⟨vs,t,by rw [heap_push,if_pos rfl],rfl⟩,E,hb,Nat.le_refl _⟩
   ·rename_i h
    obtain ⟨l',hg,⟨vs',t',hw,hs⟩,r,hr,hle⟩:=R.grow B b' E' sz' size' ha
    have hlt:=R.lt_g hg
    obtain ⟨r',hr',hle'⟩:=hrows b' r hr
    exact ⟨l',by simp only; rw [if_neg h]; exact hg,⟨vs',t',by rw [heap_push,if_neg h]; exact hw,hs⟩,r',hr',by omega⟩
 ·intro B hB _ _
  rw [heap_push,if_neg (by omega)]
 ·intro B hB h1 h2
  refine ⟨h1,?_⟩
  simp only
  rw [if_neg (by omega)]; exact h2
 ·simp only at hx'
  split at hx'
  ·rename_i h; exact .inr (Nat.le_of_eq h.symm)
  ·exact .inl ⟨_,hx'⟩
theorem src_of {tx e' : TypeId} {size sz : Nat} {tag : Tag} {rows : List (List AV)} {x : Value} (R : Rel K S w) (hk : P.underlying tx = some (.slice e')) (hx : Rep K (.list sz tag rows) x) (hs : rows = [] ∨ sz = size) :
  ∃ news,Src P size tx x rows.length news w ∧ RepLL K rows news:=by
 simp only [Rep] at hx
 obtain ⟨base,cap,rfl,hc,hall,h⟩:=hx
 rcases h with ⟨rfl,rfl,rfl⟩ | ⟨B,o,vs,rfl,hf,hr,_⟩
 ·exact ⟨[],Src.ofNil w hk 0,by simp [RepLL]⟩
 ·refine ⟨vs,?_,hr⟩
  have hl:=(RepLL.flat.1 hr).length
  have hfl:=flatten_length rows (fun r hr' => (hall r hr').1)
  refine Src.ofSlice w hk ⟨B,o,none⟩ rows.length cap vs ?_ (fun j u hj => by rw [add_none]; exact R.fix_cell hf j u hj) (fun u hu => (RepLL.flat.1 hr).oneCell u hu)
  rcases hs with rfl | rfl
  ·simp at hl ⊢; exact hl
  ·omega
theorem next_cap_le (need cap : Nat) (h : cap < need) : Builtin.nextslicecap need cap ≤ 4 * need + 4096:=by
 have grow : ∀ (n c : Nat),c < need → Builtin.growBy need n c ≤ 4 * need + 4096 ∨ True:=fun _ _ _ => .inr trivial
 have step : ∀ (c : Nat),(if c ≥ need then c else c + (c + 768) / 4) ≤ c + (c + 768) / 4:=fun c => by split <;> omega
 unfold Builtin.nextslicecap
 split
 ·omega
 ·split
  ·omega
  ·have key : ∀ (n c : Nat),c ≤ 2 * need + 1024 → Builtin.growBy need n c ≤ 2 * need + 1024:=by
    intro n
    induction n with
    | zero => intro c hc; simpa [Builtin.growBy] using hc
    | succ n ih =>
     intro c hc
     simp only [Builtin.growBy]
     split
     ·exact hc
     ·exact ih _ (by omega)
   have:=key 4 cap (by omega)
   omega
theorem l_append {t tx el e' ty : TypeId} {i : TypeInfo} {z : Value} {sz by_ : Nat} {x y : AV} {x' y' : Value} {S' : St} (R : Rel K S w) (ht : P.underlying t = some (.slice el)) (hi : P.info? el = some i) (hz : i.zero = some z)
  (hsz : i.size = sz) (hzs : z.cells.size = sz) (hby : i.bytes = by_) (htx : P.underlying tx = some (.slice e')) (hx : Rep K x x') (hy : Rep K y y') (hv : aappend sz by_ x y S = some (v,S')) :
  ∃ v' K' w',(Builtin.append_ #[t,tx] ty #[x',y']).run P w = .ok v' w' ∧ Rep K' v v' ∧ Rel K' S' w' ∧ S'.heap = S.heap ∧ ∀ X,Step K X w K' w':=by
 unfold aappend at hv
 split at hv
 ·rename_i sz0 tag rows szb tagb rowsb
  split at hv
  ·
   rename_i h0
   subst h0
   simp only [Option.some.injEq,Prod.mk.injEq] at hv
   obtain ⟨rfl,rfl⟩:=hv
   have hx':=hx
   simp only [Rep] at hx'
   obtain ⟨base,cap,rfl,hlc,_,_⟩:=hx'
   obtain ⟨news,hs,hr⟩:=src_of (size:=i.size) R htx hy (.inl rfl)
   have hn : news = []:=by simpa only [RepLL] using hr
   subst hn
   exact ⟨_,K,w,run_append_nothing w t tx ty el i ht hi base rows.length cap hlc _ hs,hx,R,rfl,fun X => Step.refl K X w⟩
  ·rename_i h0
   split at hv
   ·rename_i hcond
    obtain ⟨hszb,hs0,hb1,hb2,hszp⟩:=hcond
    unfold maxRow at hb1 hb2
    have hnpos : 0 < rowsb.length:=List.length_pos_iff.2 h0
    obtain ⟨news,hs,hrn⟩:=src_of (size:=i.size) R htx hy (.inr (by omega))
    have hnl:=hs.newsLen
    have hx':=hx
    simp only [Rep] at hx'
    obtain ⟨base,cap,rfl,hlc,hall,hr⟩:=hx'
    have hally : ∀ r ∈ rowsb,r.length = sz ∧ closedL r = true:=by
     simp only [Rep] at hy
     obtain ⟨_,_,_,_,h,_⟩:=hy
     rw [← hszb]; exact h
    have hall' : ∀ r ∈ rows ++ rowsb,r.length = sz ∧ closedL r = true:=by
     intro r hr'
     rcases List.mem_append.1 hr' with h | h
     ·rcases hs0 with h' | h'
      ·subst h'; cases h
      ·rw [← h']; exact hall r h
     ·exact hally r h
    obtain ⟨olds,hold,hro,holdl⟩ : ∃ olds,(∀ w1 : World,(∀ k,w1.heap[k]? = w.heap[k]?) → (Builtin.firstCells i.size rows.length (.slice base rows.length cap)).run P w1 = .ok olds.toArray w1) ∧ RepLL K rows olds ∧ olds.length = rows.length * sz:=by
     rcases hr with ⟨rfl,rfl,rfl⟩ | ⟨B,o,vs,rfl,hf,hrl,_⟩
     ·exact ⟨[],fun w1 _ => by simpa using run_firstCells_none w1 i.size 0 0 0,by simp [RepLL],by simp⟩
     ·have hl:=(RepLL.flat.1 hrl).length
      have hfl : rows.flatten.length = rows.length * sz:=by
       rcases hs0 with h' | h'
       ·subst h'; simp
       ·rw [flatten_length rows (fun r hr' => (hall r hr').1),h']
      refine ⟨vs,fun w1 hw1 => ?_,hrl,by omega⟩
      refine run_firstCells_some w1 i.size rows.length ⟨B,o,none⟩ rows.length cap vs (by rw [hsz]; omega) (fun j u hj => ?_)
      rw [add_none]
      have:=R.fix_cell hf j u hj
      rw [World.cell?_of_block (w:=w) (hw1 B)]
      exact this
    have hcat : RepL K (rows ++ rowsb).flatten (olds ++ news):=by
     rw [List.flatten_append]
     exact (RepLL.flat.1 hro).append (RepLL.flat.1 hrn)
    have newrow : ∀ (b E : Nat) (S1 : St),S1.heap = S.heap → (∀ (b r : Nat),S.rows[b]? = some r → ∃ r' : Nat,S1.rows[b]? = some r' ∧ r ≤ r') → S1.rows[b]? = some E → cap < rows.length + rowsb.length →
      ∃ v' K' w',(Builtin.append_ #[t,tx] ty #[.slice base rows.length cap,y']).run P w = .ok v' w' ∧ Rep K' (.list sz (.row b E) (rows ++ rowsb)) v' ∧ Rel K' S1 w' ∧ S1.heap = S.heap ∧ ∀ X,Step K X w K' w':=by
     intro b E S1 h1 h2 h3 hcap
     have hrun:=run_append_grow_src w t tx ty el i z ht hi hz base rows.length cap olds (hold w.drew (fun _ => rfl)) y' rowsb.length news hs hcap (by omega) (by
      have h4:=next_cap_le (rows.length + rowsb.length) cap hcap
      have h5 : Builtin.nextslicecap (rows.length + rowsb.length) cap * i.bytes ≤ (4 * (rows.length + rowsb.length) + 4096) * i.bytes:=Nat.mul_le_mul_right _ h4
      have h6 : (4 * (rows.length + rowsb.length) + 4096) * i.bytes ≤ (4100 * (rows.length + rowsb.length)) * i.bytes:=Nat.mul_le_mul_right _ (by omega)
      have h7 : (4100 * (rows.length + rowsb.length)) * i.bytes = 4100 * ((rows.length + rowsb.length) * i.bytes):=by rw [Nat.mul_assoc]
      have h8 : (rows.length + rowsb.length) * i.bytes ≤ 1073741824:=by rw [hby]; exact hb1
      omega)
     have hR : Rel K S w.drew:=⟨R.dom,R.inj,R.sep,R.cells,R.maps,R.rows,R.grow⟩
     obtain ⟨K',hg,ha,hm,R',hst⟩:=Rel.more_new hR h1 h2 ((olds ++ news).toArray ++ Builtin.zeroCells z.cells (grownCap w (rows.length + rowsb.length) cap el - (rows.length + rowsb.length))) el (olds ++ news) b E sz (by rw [Array.toList_append,List.take_append_of_le_length (Nat.le_refl _),List.take_of_length_le (Nat.le_refl _)]) h3
     have hst0 : ∀ X,Step K X w K w.drew:=fun X => ⟨Ext.refl K,rfl,rfl,rfl,Nat.le_refl _,fun _ _ _ _ => rfl,fun _ _ h1 h2 => ⟨h1,h2⟩,fun _ _ h => h,fun _ x h => .inl ⟨x,h⟩⟩
     have hstx : ∀ X,Step K X w K' _:=fun X => (hst0 X).trans (hst X) (fun _ h => h)
     refine ⟨_,K',_,hrun,?_,R',h1,hstx⟩
     have hge:=grownCap_ge w (rows.length + rowsb.length) cap el
     simp only [Rep]
     refine ⟨_,grownCap w (rows.length + rowsb.length) cap el,by rw [List.length_append],by rw [List.length_append]; exact hge,hall',.inr ⟨w.heap.size,0,olds ++ news,rfl,⟨olds ++ news,hg,by rw [List.drop_zero,List.take_of_length_le (Nat.le_refl _)]⟩,?_,?_⟩⟩
     ·rw [RepLL.flat]; exact RepL.ext (hstx (fun _ => False)).ext _ _ hcat
     ·refine ⟨fun x hx => (by cases (show K'.a w.heap.size = _ from ha).symm.trans hx; rfl),⟨_,ha,rfl⟩,fun _ => ?_⟩
      refine ⟨E,_,olds ++ news,ha,hg,Nat.le_refl _,?_,?_⟩
      ·have hm : (rows.length + rowsb.length) * sz = rows.length * sz + rowsb.length * sz:=Nat.add_mul _ _ _
       rw [List.length_append,List.length_append,holdl,hnl,hsz,Nat.sub_self,hm]
       omega
      ·rw [Array.size_append,size_zeroCells,hzs]
       have hm : (rows.length + rowsb.length) * sz = rows.length * sz + rowsb.length * sz:=Nat.add_mul _ _ _
       have hm2 : grownCap w (rows.length + rowsb.length) cap el * sz = (rows.length + rowsb.length) * sz + (grownCap w (rows.length + rowsb.length) cap el - (rows.length + rowsb.length)) * sz:=by
        rw [← Nat.add_mul]; congr 1; omega
       have hl2 : (olds ++ news).toArray.size = rows.length * sz + rowsb.length * sz:=by
        simp [holdl,hnl,hsz]
       rw [hl2]
       omega
    split at hv
    ·
     simp only [Option.some.injEq,Prod.mk.injEq] at hv
     obtain ⟨rfl,rfl⟩:=hv
     refine newrow _ _ _ rfl (fun b r hbr => ?_) (by simp) ?_
     ·have:=(List.getElem?_eq_some_iff.1 hbr).1
      exact ⟨r,by simp only; rw [List.getElem?_append_left this]; exact hbr,Nat.le_refl _⟩
     ·rcases hr with ⟨rfl,rfl,rfl⟩ | ⟨B,o,vs,rfl,hf,hrl,ht'⟩
      ·simpa using hnpos
      ·have:=ht'.2; simp only [Ghost.tagIn] at this; omega
    ·
     rename_i b en
     split at hv
     ·rename_i hc2
      obtain ⟨hs0',hSr⟩:=hc2
      simp only [Option.some.injEq,Prod.mk.injEq] at hv
      obtain ⟨rfl,rfl⟩:=hv
      have hb:=(List.getElem?_eq_some_iff.1 hSr).1
      by_cases hroom : rows.length + rowsb.length ≤ cap
      ·rcases hr with ⟨rfl,rfl,rfl⟩ | ⟨B,o,vs,rfl,hf,hrl,ht'⟩
       ·simp at hroom; exact absurd hroom h0
       ·subst hs0'
        have hlt : rows.length < cap:=by omega
        obtain ⟨E,size,l,ha,hg,hle,hll,hsize⟩:=ht'.2.2 hlt
        obtain ⟨l1,hg1,⟨us,t',hw,hus⟩,r,hr',hEr⟩:=R.grow B b E sz0 size ha
        rw [hSr] at hr'
        cases hr'
        have hEe : E = en:=by omega
        subst hEe
        rw [Nat.sub_self,Nat.zero_mul,Nat.add_zero] at hll
        have hmul : (rows.length + rowsb.length) * sz0 = rows.length * sz0 + rowsb.length * sz0:=Nat.add_mul _ _ _
        have hcapm : (rows.length + rowsb.length) * sz0 ≤ cap * sz0:=Nat.mul_le_mul_right _ hroom
        have hnl' : news.length = rowsb.length * sz0:=by rw [hnl,hsz]
        obtain ⟨cur',hW,hl,hsz'⟩:=Wr.setCells (B:=B) (t:=t') news (o + rows.length * sz0) w us hw (by omega)
        have hrun:=run_append_room_src w t tx ty el i ht hi B o rows.length cap y' rowsb.length news hs hroom (fun j hj => by rw [cells_at hw]; simp; rw [hsz]; omega) (fun j hj => free_at hw _)
        rw [hsz] at hrun
        obtain ⟨us2,t2,hw2,ht2⟩:=R.rows B l hg
        rw [hw] at hw2
        simp only [Option.some.injEq,Obj.cells.injEq] at hw2
        obtain ⟨rfl,rfl,_⟩:=hw2
        obtain ⟨K',hg',ha',R',hst⟩:=R.more (n:=rowsb.length) hg ha hSr hnl' hW (by
         rw [hl,← hll]
         have hlen : (us.toList.take l.length).length = l.length:=by
          rw [ht2]
         rw [List.take_append_of_le_length (by rw [List.length_append,hlen]; omega),List.take_of_length_le (by rw [List.length_append,hlen]; omega),ht2]) (by omega)
        refine ⟨_,K',_,hrun,?_,R',rfl,hst⟩
        have hext:=(hst (fun _ => False)).ext
        simp only [Rep]
        refine ⟨_,cap,by rw [List.length_append],by rw [List.length_append]; exact hroom,hall',.inr ⟨B,o,olds ++ news,rfl,?_,?_,?_⟩⟩
        ·obtain ⟨l0,hg0,hl0⟩:=hf
         rw [hg] at hg0
         cases hg0
         refine ⟨l ++ news,hg',?_⟩
         have hvl : vs.length = rows.length * sz0:=by
          rw [(RepLL.flat.1 hrl).length,flatten_length rows (fun r hr' => (hall r hr').1)]
         have hvo : vs = olds:=by
          have h1:=hold w (fun _ => rfl)
          have h2:=run_firstCells_some (P:=P) w i.size rows.length ⟨B,o,none⟩ rows.length cap vs (by rw [hsz]; exact hvl) (fun j u hj => by rw [add_none]; exact R.fix_cell ⟨l,hg,hl0⟩ j u hj)
          rw [h1] at h2
          simp only [Result.ok.injEq,and_true] at h2
          have:=congrArg Array.toList h2
          simpa using this.symm
         rw [← hvo,List.drop_append_of_le_length (by omega),List.length_append]
         have hdl : (l.drop o).length = vs.length:=by simp; omega
         rw [List.take_append,← hdl,List.take_of_length_le (by omega)]
         have : l.drop o = vs:=by
          rw [← hl0,List.take_of_length_le (by omega)]
         rw [this]
         congr 1
         rw [List.take_of_length_le (by omega)]
        ·rw [RepLL.flat]; exact RepL.ext hext _ _ hcat
        ·refine ⟨fun x hx => by rw [ha'] at hx; cases hx; rfl,⟨_,ha',rfl⟩,fun hlt2 => ?_⟩
         refine ⟨E + rowsb.length,size,l ++ news,ha',hg',by omega,?_,hsize⟩
         rw [List.length_append,List.length_append,hll,hnl',hmul,Nat.sub_self]
         omega
      ·refine newrow _ _ _ rfl (fun b' r hbr => ?_) (by simp only; rw [List.getElem?_set_self hb]) (by omega)
       by_cases hbb : b' = b
       ·subst hbb
        rw [hSr] at hbr
        cases hbr
        exact ⟨_,by simp only; rw [List.getElem?_set_self hb],by omega⟩
       ·exact ⟨r,by simp only; rw [List.getElem?_set_ne (fun h => hbb h.symm)]; exact hbr,Nat.le_refl _⟩
     ·simp at hv
    ·simp at hv
    ·simp at hv
   ·simp at hv
 ·simp at hv
end Go.Proofs.YtmeakjgbjldkdaaGreat.Ai
