/- A part of what is proved: Tr, TrP, L1, Lex, Lex2, Lex3, Lex4, Lex5, Ast, Lists, Cls, C7p. No condition. -/
import Derived.Test.YtmeakjgbjldkdaaGreatY5
import Derived.Test.YtmeakjgbjldkdaaGreatProg
import Derived.KernelRfl
set_option maxRecDepth 100000
set_option maxHeartbeats 16000000
namespace Go.Proofs.YtmeakjgbjldkdaaGreat.Tr
open Go Go.Proofs.YtmeakjgbjldkdaaGreat.Ai
abbrev AItem:=Go.Proofs.YtmeakjgbjldkdaaGreat.Ai.Item
section
variable (P : Program)
inductive Kd where
 | int (k : IntKind) | str | bool | ptr | slice (e : Nat) | map (e : Nat) | other
structure TI where
 size : Nat
 byt : Nat
 zs : List AV
 z1 : AV
 row : Option Nat
 kd : Kd
 fields : List (Nat × Nat × Option Nat)
def avs (f : Value → Option AV) : List Value → Option (List AV)
 | [] => some []
 | v :: vs => match f v,avs f vs with
  | some a,some l => some (a :: l)
  | _,_ => none
def av : Nat → Value → Option AV
 | 0,_ => none
 | _ + 1,.bool b => some (.bool b)
 | _ + 1,.int k n => some (.int k n)
 | _ + 1,.string s => some (.str s.data.toList)
 | _ + 1,.pointer none => some .nilp
 | _ + 1,.slice none 0 0 => some (.list 0 .full [])
 | _ + 1,.map none => some .nilm
 | _ + 1,.nilFunc => some .nilf
 | _ + 1,.nilIface => some .nili
 | _ + 1,.func (.func g) a b => if a.size == 0 && b.size == 0 then some (.func g [] []) else none
 | n + 1,.agg cs => (avs (av n) cs.toList).map .agg
 | _ + 1,.tuple vs => if vs.size == 0 then some .undef else none
 | _,_ => none
def fld (f : Field) : Nat × Nat × Option Nat:=match P.info? f.type,P.underlying f.type with
 | some i,some d => (f.offset,i.size,if d.isRow then some i.size else none)
 | _,_ => (f.offset,0,none)
def flds : List Field → List (Nat × Nat × Option Nat)
 | [] => []
 | f :: fs => fld P f :: flds fs
def ti (T : TypeId) : Option TI:=match P.info? T,P.underlying T with
 | some i,some d => match i.zero with
  | some z => match avs (av 3) z.cells.toList,av 3 z with
   | some l,some z1 => some ⟨i.size,i.bytes,l,z1,if d.isRow then some i.size else none,match d with
     | .int k => .int k
     | .string => .str
     | .bool => .bool
     | .pointer _ => .ptr
     | .slice e => .slice e
     | .map _ e => .map e
     | _ => .other,match d with
     | .struct fs => flds P fs.toList
     | _ => []⟩
   | _,_ => none
  | none => none
 | _,_ => none
def tis : List Nat → List (Nat × TI)
 | [] => []
 | T :: l => match ti P T with
  | some x => (T,x) :: tis l
  | none => tis l
end
section
variable (P : List (Nat × TI))
def look : List (Nat × TI) → Nat → Option TI
 | [],_ => none
 | (a,x) :: l,T => bif Nat.beq a T then some x else look l T
def op : Operand → Option Opd
 | .tmp t => some (.tmp t)
 | .const v => (av 3 v).map .const
 | .func g => some (.const (.func g [] []))
 | .global _ => none
def op? : Option Operand → Option (Option Opd)
 | none => some none
 | some x => (op x).map some
def ops' : List Operand → Option (List Opd)
 | [] => some []
 | x :: xs => match op x,ops' xs with
  | some a,some l => some (a :: l)
  | _,_ => none
def elem (T : TypeId) : Option TI:=match look P T with
 | some x => match x.kd with
  | .slice e => look P e
  | _ => none
 | none => none
def parts (fs : List (Nat × Nat × Option Nat)) : List (Nat × Operand) → Option (List (Nat × Nat × Opd))
 | [] => some []
 | (i,x) :: ps => match fs[i]?,op x,parts fs ps with
  | some f,some a,some l => some ((f.1,f.2.1,a) :: l)
  | _,_,_ => none
def opn (j : Nat) : Op → Option (IOp × Option (List AV))
 | .move x | .assign x => (op x).map fun a => (.q (.mov a),none)
 | .pick c a b => do return (.q (.pick (← op c) (← op a) (← op b)),none)
 | .alloc T => (look P T).map fun z => (.q (.alloc j z.zs),some z.zs)
 | .box _ x => (op x).map fun a => (.l (.box a) [],none)
 | .build T ps => do
  let x ← look P T
  return (.q (.build x.zs (← parts x.fields ps.toList)),none)
 | .buildSlice T _ ps => do return (.q (.mkList (← elem P T).size (← ops' (ps.toList.map (·.2)))),none)
 | .load T a => do return (.q (.load (← look P T).row (← op a)),none)
 | .store T a v => do return (.l (.store (← look P T).size (← op a) (← op v)) [],none)
 | .nilCheck x => (op x).map fun a => (.q (.nilCheck a),none)
 | .binOp o T x y _ => do
  let a ← op x
  let b ← op y
  match (← look P T).kd with
  | .int _ | .str => return (.q (.bin .num o a b),none)
  | .bool => return (.q (.bin .bool o a b),none)
  | .ptr => return (.q (.bin .ptr o a b),none)
  | _ => none
 | .unOp .not _ x => (op x).map fun a => (.q (.unot a),none)
 | .unOp .neg _ x => (op x).map fun a => (.q (.uneg a),none)
 | .convert _ d x => do match (← look P d).kd with
  | .int k => (op x).map fun a => (.q (.conv k a),none)
  | .str => (op x).map fun a => (.q (.convS a),none)
  | _ => none
 | .makeInterface T x => (op x).map fun a => (.q (.mkIface T a),none)
 | .makeFunc (.func f) a b => do return (.q (.mkFunc f (← ops' a.toList) (← ops' b.toList)),none)
 | .makeMap _ none => some (.l .mkMap [],none)
 | .makeSlice T l c => do
  let e ← elem P T
  return (.l (.mkSlice e.size e.byt e.zs (← op l) (← op c)) [],none)
 | .slice T x lo hi none => do
  let a ← op x
  let l ← op? lo
  let h ← op? hi
  match (← look P T).kd with
  | .str => return (.q (.sliceS a l h),none)
  | _ => return (.q (.slice (← elem P T).size a l h),none)
 | .fieldAddr T x f => do
  let t ← look P T
  let d ← t.fields[f]?
  return (.q (.fieldAddr d.1 (← op x)),none)
 | .field T x f => do
  let t ← look P T
  let d ← t.fields[f]?
  return (.q (.field d.1 d.2.2 (← op x)),none)
 | .indexAddr T x i => do return (.q (.indexAddr (← elem P T).size (← op x) (← op i)),none)
 | .index _ x i => do return (.q (.index (← op x) (← op i)),none)
 | .lookup T m k ok => do match (← look P T).kd with
  | .map e => return (.q (.lookup (← look P e).z1 ok (← op m) (← op k)),none)
  | _ => none
 | .mapUpdate _ m k v => do return (.l (.mapUpd (← op m) (← op k) (← op v)) [],none)
 | .typeAssert x _ t true => do return (.q (.tassert t (← look P t).z1 (← op x)),none)
 | .extract x i => (op x).map fun a => (.q (.extract a i),none)
 | .panic x => (op x).map fun a => (.l (.panic a) [],none)
 | .call c => match c.callee with
  | .builtin .len => match c.args.toList,c.argTypes.toList with
   | [x],[t] => do match (← look P t).kd with
    | .str => (op x).map fun a => (.q (.lenS a),none)
    | .slice _ => (op x).map fun a => (.q (.len a),none)
    | _ => none
   | _,_ => none
  | .builtin .append => match c.args.toList,c.argTypes.toList with
   | [x,y],[t,_] => do
    let e ← elem P t
    return (.l (.append e.size e.byt (← op x) (← op y)) [],none)
   | _,_ => none
  | .builtin .min => match c.args.toList with
   | [x,y] => do return (.q (.min2 (← op x) (← op y)),none)
   | _ => none
  | .value g => do return (.l (.call (← op g) (← ops' c.args.toList)) [],none)
  | _ => none
 | _ => none
def its (ops : Array Oper) : Nat → List Oper → Nat → Option (List AItem × List (List AV))
 | _,[],_ => some ([],[])
 | i,o :: os,j => match opn P j o.op with
  | none => none
  | some (x,al) =>
   let g:=match o.guard with
    | none => some none
    | some (k,b) => match (ops[k]?).bind (·.dst) with
     | some d => some (some (d,b))
     | none => none
   match g,its ops (i + 1) os (j + al.toList.length) with
   | some g,some (l,als) => some (⟨i,o.dst,g,x⟩ :: l,al.toList ++ als)
   | _,_ => none
def isQ : IOp → Bool
 | .q _ => true
 | _ => false
def isFree : IOp → Bool
 | .q o => o.free
 | _ => false
def order (tab : List Nat) (skip : List Nat) : Nat → List AItem → List AItem → Option (List AItem)
 | 0,_,_ => none
 | _ + 1,[],_ => some []
 | n + 1,todo,done =>
  let rdy:=todo.filter fun it => todo.all fun k => !((tab.getD it.ix 0).testBit k.ix)
  match rdy.find? fun it => isQ it.op with
  | some it => (order tab skip n (todo.filter fun k => k.ix != it.ix) (it :: done)).map (it :: ·)
  | none => match rdy with
   | [] => none
   | it :: _ =>
    let re:=(done.reverse.filter fun k => !((tab.getD it.ix 0).testBit k.ix) && isQ k.op && !isFree k.op).map (·.ix)
    let it' : AItem:=match it.op with
     | .l o _ => {it with op:=.l o re}
     | _ => it
    (order tab skip n (todo.filter fun k => k.ix != it.ix) (it' :: done)).map (it' :: ·)
def reg (ops : Array Oper) (draw : Bool) (kp : List Nat) : Option IC:=
 match its P ops 0 ops.toList 0 with
 | none => none
 | some (l,als) => if draw then (order (befTab ops) [] (l.length + 1) l []).map fun l => .region als l kp else some (.region als l kp)
end
def regs : Code → List (Array Oper × Bool)
 | .region _ ops d => [(ops,d)]
 | .seq a b => regs a ++ regs b
 | .cond _ a b => regs a ++ regs b
 | .block _ b => regs b
 | .loop b => regs b
 | _ => []
def rgs (P : List (Nat × TI)) : List (Array Oper × Bool) → List (List Nat) → List IC
 | (o,d) :: l,kp :: ks => (reg P o d kp).getD .stuck :: rgs P l ks
 | _,_ => []
def fn (P : List (Nat × TI)) (g : Func) (k : Nat) (ks : List (List Nat)) : List IC:=rgs P ((regs (g.body.getD .skip)).drop k) ks
def pk : List IC → Nat → IC
 | [],_ => .stuck
 | c :: _,0 => c
 | _ :: l,n + 1 => pk l n
end Go.Proofs.YtmeakjgbjldkdaaGreat.Tr
namespace Go.Proofs.YtmeakjgbjldkdaaGreat.Tr
open Go Go.Proofs.YtmeakjgbjldkdaaGreat.Ai
set_option maxRecDepth 100000
set_option maxHeartbeats 16000000
def t0 : {l : List (Nat × TI) // tis Tryz.prog [3,9,35,23,74,124,29,39,58,31,169,4] = l}:=⟨_,by cbv⟩
def t1 : {l : List (Nat × TI) // tis Tryz.prog [44,42,104,37,33,51,61,109,41,46,30,164] = l}:=⟨_,by cbv⟩
def t2 : {l : List (Nat × TI) // tis Tryz.prog [209,49,80,110,95,26,85,24,5,32,92,65] = l}:=⟨_,by cbv⟩
def t3 : {l : List (Nat × TI) // tis Tryz.prog [70,67,76,114,181,180,186,226,234] = l}:=⟨_,by cbv⟩
def tt : {l : List (Nat × TI) // t0.1 ++ t1.1 ++ t2.1 ++ t3.1 = l}:=⟨_,by cbv⟩
abbrev TT : List (Nat × TI):=tt.1
end Go.Proofs.YtmeakjgbjldkdaaGreat.Tr
namespace Go.Proofs.YtmeakjgbjldkdaaGreat.Ai
open Go
set_option maxRecDepth 100000
set_option maxHeartbeats 16000000
def F89a : {l : List IC // Tr.fn Tr.TT Tryz.f89 0 [[0],[0,12],[2,3,4],[0,5],[0,5,6],[0,5,6,18],[0,5,6,7],[0,5,6,7,8],[0,5,6,7,8,31],[0,5,6,9],[0,5,6,9,38],[2,3,4],[0,5,6,8],[0,5,6,7,8],[0,5,6,7,8,43],[2,3,4],[0,5,6,7,8,63],[2,3,4],[0,5,6,7,8,79],[2,3,4],[0,5,8],[0,5,6],[0,5,6],[2,3,4]] = l}:=⟨_,by cbv⟩
def r89_0 : IC:=Tr.pk F89a.1 0
def r89_1 : IC:=Tr.pk F89a.1 1
def r89_2 : IC:=Tr.pk F89a.1 2
def r89_3 : IC:=Tr.pk F89a.1 3
def r89_4 : IC:=Tr.pk F89a.1 4
def r89_5 : IC:=Tr.pk F89a.1 5
def r89_6 : IC:=Tr.pk F89a.1 6
def r89_7 : IC:=Tr.pk F89a.1 7
def r89_8 : IC:=Tr.pk F89a.1 8
def r89_9 : IC:=Tr.pk F89a.1 9
def r89_10 : IC:=Tr.pk F89a.1 10
def r89_11 : IC:=Tr.pk F89a.1 11
def r89_12 : IC:=Tr.pk F89a.1 12
def r89_13 : IC:=Tr.pk F89a.1 13
def r89_14 : IC:=Tr.pk F89a.1 14
def r89_15 : IC:=Tr.pk F89a.1 15
def r89_16 : IC:=Tr.pk F89a.1 16
def r89_17 : IC:=Tr.pk F89a.1 17
def r89_18 : IC:=Tr.pk F89a.1 18
def r89_19 : IC:=Tr.pk F89a.1 19
def r89_20 : IC:=Tr.pk F89a.1 20
def r89_21 : IC:=Tr.pk F89a.1 21
def r89_22 : IC:=Tr.pk F89a.1 22
def r89_23 : IC:=Tr.pk F89a.1 23
noncomputable def i89 : IFn:=⟨1,(.seq r89_0 (.seq (.seq r89_1 (.cond (.tmp 12) (.seq r89_2 .ret) (.skip))) (.seq r89_3 (.seq (.seq r89_4 (.block 0 (.loop [0,5,6] (.seq (.seq r89_5 (.cond (.tmp 18) (.skip) (.exit 0))) (.seq (.block 1 (.seq r89_6 (.seq r89_7 (.seq (.block 2 (.seq r89_8 (.cond (.tmp 31) (.seq r89_9 (.seq (.seq r89_10 (.cond (.tmp 38) (.seq r89_11 .ret) (.skip))) (.seq r89_12 r89_13))) (.seq r89_14 (.cond (.tmp 43) (.seq r89_15 .ret) (.seq r89_16 (.cond (.tmp 63) (.seq r89_17 .ret) (.seq r89_18 (.cond (.tmp 79) (.seq r89_19 .ret) (.skip)))))))))) (.seq r89_20 r89_21))))) r89_22))))) (.seq r89_23 .ret))))),[.tmp 2,.tmp 3,.tmp 4]⟩
theorem c89 : chkFn Tryz.prog Tryz.f89 i89 = true:=by kernel_rfl
def F90a : {l : List IC // Tr.fn Tr.TT Tryz.f90 0 [[0,1,2],[6]] = l}:=⟨_,by cbv⟩
def r90_0 : IC:=Tr.pk F90a.1 0
def r90_1 : IC:=Tr.pk F90a.1 1
noncomputable def i90 : IFn:=⟨3,(.seq r90_0 (.seq r90_1 .ret)),[.tmp 6]⟩
theorem c90 : chkFn Tryz.prog Tryz.f90 i90 = true:=by kernel_rfl
def F93a : {l : List IC // Tr.fn Tr.TT Tryz.f93 0 [[0,7],[]] = l}:=⟨_,by cbv⟩
def r93_0 : IC:=Tr.pk F93a.1 0
def r93_1 : IC:=Tr.pk F93a.1 1
noncomputable def i93 : IFn:=⟨2,(.seq r93_0 (.cond (.tmp 7) r93_1 (.skip))),[]⟩
theorem c93 : chkFn Tryz.prog Tryz.f93 i93 = true:=by kernel_rfl
def F95a : {l : List IC // Tr.fn Tr.TT Tryz.f95 0 [[0,1,8],[0],[]] = l}:=⟨_,by cbv⟩
def r95_0 : IC:=Tr.pk F95a.1 0
def r95_1 : IC:=Tr.pk F95a.1 1
def r95_2 : IC:=Tr.pk F95a.1 2
noncomputable def i95 : IFn:=⟨2,(.seq r95_0 (.cond (.tmp 8) (.seq r95_1 r95_2) (.skip))),[]⟩
theorem c95 : chkFn Tryz.prog Tryz.f95 i95 = true:=by kernel_rfl
def F130a : {l : List IC // Tr.fn Tr.TT Tryz.f130 0 [[0,1],[0,1,8],[0,1,13],[0,1],[0,1,28],[4],[0,1,39],[0,1],[4]] = l}:=⟨_,by cbv⟩
def r130_0 : IC:=Tr.pk F130a.1 0
def r130_1 : IC:=Tr.pk F130a.1 1
def r130_2 : IC:=Tr.pk F130a.1 2
def r130_3 : IC:=Tr.pk F130a.1 3
def r130_4 : IC:=Tr.pk F130a.1 4
def r130_5 : IC:=Tr.pk F130a.1 5
def r130_6 : IC:=Tr.pk F130a.1 6
def r130_7 : IC:=Tr.pk F130a.1 7
def r130_8 : IC:=Tr.pk F130a.1 8
noncomputable def i130 : IFn:=⟨2,(.seq r130_0 (.seq (.block 0 (.loop [0,1] (.seq (.seq r130_1 (.cond (.tmp 8) (.skip) (.exit 0))) (.block 1 (.seq (.seq r130_2 (.cond (.tmp 13) (.seq r130_3 (.exit 1)) (.skip))) (.seq (.seq r130_4 (.cond (.tmp 28) (.seq r130_5 .ret) (.skip))) (.block 2 (.loop [0,1] (.seq (.seq r130_6 (.cond (.tmp 39) (.skip) (.exit 2))) (.block 3 r130_7)))))))))) (.seq r130_8 .ret))),[.tmp 4]⟩
theorem c130 : chkFn Tryz.prog Tryz.f130 i130 = true:=by kernel_rfl
def F131a : {l : List IC // Tr.fn Tr.TT Tryz.f131 0 [[0],[0,3],[2],[0,22],[2],[29],[2],[2]] = l}:=⟨_,by cbv⟩
def r131_0 : IC:=Tr.pk F131a.1 0
def r131_1 : IC:=Tr.pk F131a.1 1
def r131_2 : IC:=Tr.pk F131a.1 2
def r131_3 : IC:=Tr.pk F131a.1 3
def r131_4 : IC:=Tr.pk F131a.1 4
def r131_5 : IC:=Tr.pk F131a.1 5
def r131_6 : IC:=Tr.pk F131a.1 6
def r131_7 : IC:=Tr.pk F131a.1 7
noncomputable def i131 : IFn:=⟨1,(.seq r131_0 (.seq (.block 0 (.seq r131_1 (.cond (.tmp 3) (.seq r131_2 .ret) (.seq r131_3 (.cond (.tmp 22) (.seq r131_4 .ret) (.seq r131_5 (.cond (.tmp 29) (.seq r131_6 .ret) (.skip)))))))) (.seq r131_7 .ret))),[.tmp 2]⟩
theorem c131 : chkFn Tryz.prog Tryz.f131 i131 = true:=by kernel_rfl
def F132a : {l : List IC // Tr.fn Tr.TT Tryz.f132 0 [[0,1,2],[0,1,2,27],[0,1,2],[6]] = l}:=⟨_,by cbv⟩
def r132_0 : IC:=Tr.pk F132a.1 0
def r132_1 : IC:=Tr.pk F132a.1 1
def r132_2 : IC:=Tr.pk F132a.1 2
def r132_3 : IC:=Tr.pk F132a.1 3
noncomputable def i132 : IFn:=⟨3,(.seq r132_0 (.seq (.block 0 (.loop [0,1,2] (.seq (.seq r132_1 (.cond (.tmp 27) (.skip) (.exit 0))) (.block 1 r132_2)))) (.seq r132_3 .ret))),[.tmp 6]⟩
theorem c132 : chkFn Tryz.prog Tryz.f132 i132 = true:=by kernel_rfl
def F133a : {l : List IC // Tr.fn Tr.TT Tryz.f133 0 [[0,1],[0,1,5],[0,1,5,6],[0,1,6,22],[4],[29],[4],[4]] = l}:=⟨_,by cbv⟩
def r133_0 : IC:=Tr.pk F133a.1 0
def r133_1 : IC:=Tr.pk F133a.1 1
def r133_2 : IC:=Tr.pk F133a.1 2
def r133_3 : IC:=Tr.pk F133a.1 3
def r133_4 : IC:=Tr.pk F133a.1 4
def r133_5 : IC:=Tr.pk F133a.1 5
def r133_6 : IC:=Tr.pk F133a.1 6
def r133_7 : IC:=Tr.pk F133a.1 7
noncomputable def i133 : IFn:=⟨2,(.seq r133_0 (.seq r133_1 (.seq r133_2 (.seq (.seq r133_3 (.cond (.tmp 22) (.seq r133_4 .ret) (.skip))) (.seq (.seq r133_5 (.cond (.tmp 29) (.seq r133_6 .ret) (.skip))) (.seq r133_7 .ret)))))),[.tmp 4]⟩
theorem c133 : chkFn Tryz.prog Tryz.f133 i133 = true:=by kernel_rfl
def F134a : {l : List IC // Tr.fn Tr.TT Tryz.f134 0 [[0],[0,12],[2],[2]] = l}:=⟨_,by cbv⟩
def r134_0 : IC:=Tr.pk F134a.1 0
def r134_1 : IC:=Tr.pk F134a.1 1
def r134_2 : IC:=Tr.pk F134a.1 2
def r134_3 : IC:=Tr.pk F134a.1 3
noncomputable def i134 : IFn:=⟨1,(.seq r134_0 (.seq (.seq r134_1 (.cond (.tmp 12) (.seq r134_2 .ret) (.skip))) (.seq r134_3 .ret))),[.tmp 2]⟩
theorem c134 : chkFn Tryz.prog Tryz.f134 i134 = true:=by kernel_rfl
def F135a : {l : List IC // Tr.fn Tr.TT Tryz.f135 0 [[0],[0,34],[],[2],[0],[2]] = l}:=⟨_,by cbv⟩
def r135_0 : IC:=Tr.pk F135a.1 0
def r135_1 : IC:=Tr.pk F135a.1 1
def r135_2 : IC:=Tr.pk F135a.1 2
def r135_3 : IC:=Tr.pk F135a.1 3
def r135_4 : IC:=Tr.pk F135a.1 4
def r135_5 : IC:=Tr.pk F135a.1 5
noncomputable def i135 : IFn:=⟨1,(.seq r135_0 (.seq (.seq r135_1 (.cond (.tmp 34) (.seq r135_2 (.seq r135_3 .ret)) (.skip))) (.seq r135_4 (.seq r135_5 .ret)))),[.tmp 2]⟩
theorem c135 : chkFn Tryz.prog Tryz.f135 i135 = true:=by kernel_rfl
def F136a : {l : List IC // Tr.fn Tr.TT Tryz.f136 0 [[0,1],[0,8],[4],[],[4]] = l}:=⟨_,by cbv⟩
def r136_0 : IC:=Tr.pk F136a.1 0
def r136_1 : IC:=Tr.pk F136a.1 1
def r136_2 : IC:=Tr.pk F136a.1 2
def r136_3 : IC:=Tr.pk F136a.1 3
def r136_4 : IC:=Tr.pk F136a.1 4
noncomputable def i136 : IFn:=⟨2,(.seq r136_0 (.seq (.seq r136_1 (.cond (.tmp 8) (.seq r136_2 .ret) (.skip))) (.seq r136_3 (.seq r136_4 .ret)))),[.tmp 4]⟩
theorem c136 : chkFn Tryz.prog Tryz.f136 i136 = true:=by kernel_rfl
def F137a : {l : List IC // Tr.fn Tr.TT Tryz.f137 0 [[0],[0,3],[0,3,8],[0,3],[2]] = l}:=⟨_,by cbv⟩
def r137_0 : IC:=Tr.pk F137a.1 0
def r137_1 : IC:=Tr.pk F137a.1 1
def r137_2 : IC:=Tr.pk F137a.1 2
def r137_3 : IC:=Tr.pk F137a.1 3
def r137_4 : IC:=Tr.pk F137a.1 4
noncomputable def i137 : IFn:=⟨1,(.seq r137_0 (.seq r137_1 (.seq (.block 0 (.loop [0,3] (.seq (.seq r137_2 (.cond (.tmp 8) (.skip) (.exit 0))) (.block 1 r137_3)))) (.seq r137_4 .ret)))),[.tmp 2]⟩
theorem c137 : chkFn Tryz.prog Tryz.f137 i137 = true:=by kernel_rfl
def F140a : {l : List IC // Tr.fn Tr.TT Tryz.f140 0 [[0],[0,14],[0],[0],[2]] = l}:=⟨_,by cbv⟩
def r140_0 : IC:=Tr.pk F140a.1 0
def r140_1 : IC:=Tr.pk F140a.1 1
def r140_2 : IC:=Tr.pk F140a.1 2
def r140_3 : IC:=Tr.pk F140a.1 3
def r140_4 : IC:=Tr.pk F140a.1 4
noncomputable def i140 : IFn:=⟨1,(.seq r140_0 (.seq (.seq r140_1 (.cond (.tmp 14) r140_2 (.skip))) (.seq r140_3 (.seq r140_4 .ret)))),[.tmp 2]⟩
theorem c140 : chkFn Tryz.prog Tryz.f140 i140 = true:=by kernel_rfl
def F190a : {l : List IC // Tr.fn Tr.TT Tryz.f190 0 [[0,1],[0,1,5],[0,1,5,9],[0,1,5,17],[4],[0,1,5],[4]] = l}:=⟨_,by cbv⟩
def r190_0 : IC:=Tr.pk F190a.1 0
def r190_1 : IC:=Tr.pk F190a.1 1
def r190_2 : IC:=Tr.pk F190a.1 2
def r190_3 : IC:=Tr.pk F190a.1 3
def r190_4 : IC:=Tr.pk F190a.1 4
def r190_5 : IC:=Tr.pk F190a.1 5
def r190_6 : IC:=Tr.pk F190a.1 6
noncomputable def i190 : IFn:=⟨2,(.seq r190_0 (.seq (.seq r190_1 (.block 0 (.loop [0,1,5] (.seq (.seq r190_2 (.cond (.tmp 9) (.skip) (.exit 0))) (.seq (.block 1 (.seq r190_3 (.cond (.tmp 17) (.seq r190_4 .ret) (.skip)))) r190_5))))) (.seq r190_6 .ret))),[.tmp 4]⟩
theorem c190 : chkFn Tryz.prog Tryz.f190 i190 = true:=by kernel_rfl
def F191a : {l : List IC // Tr.fn Tr.TT Tryz.f191 0 [[0],[0,21],[2],[0,3],[0,3,25],[0,3,39],[2],[0,3],[2]] = l}:=⟨_,by cbv⟩
def r191_0 : IC:=Tr.pk F191a.1 0
def r191_1 : IC:=Tr.pk F191a.1 1
def r191_2 : IC:=Tr.pk F191a.1 2
def r191_3 : IC:=Tr.pk F191a.1 3
def r191_4 : IC:=Tr.pk F191a.1 4
def r191_5 : IC:=Tr.pk F191a.1 5
def r191_6 : IC:=Tr.pk F191a.1 6
def r191_7 : IC:=Tr.pk F191a.1 7
def r191_8 : IC:=Tr.pk F191a.1 8
noncomputable def i191 : IFn:=⟨1,(.seq r191_0 (.seq (.seq r191_1 (.cond (.tmp 21) (.seq r191_2 .ret) (.skip))) (.seq (.seq r191_3 (.block 0 (.loop [0,3] (.seq (.seq r191_4 (.cond (.tmp 25) (.skip) (.exit 0))) (.seq (.block 1 (.seq r191_5 (.cond (.tmp 39) (.seq r191_6 .ret) (.skip)))) r191_7))))) (.seq r191_8 .ret)))),[.tmp 2]⟩
theorem c191 : chkFn Tryz.prog Tryz.f191 i191 = true:=by kernel_rfl
def F226a : {l : List IC // Tr.fn Tr.TT Tryz.f226 0 [[0],[2]] = l}:=⟨_,by cbv⟩
def r226_0 : IC:=Tr.pk F226a.1 0
def r226_1 : IC:=Tr.pk F226a.1 1
noncomputable def i226 : IFn:=⟨1,(.seq r226_0 (.seq r226_1 .ret)),[.tmp 2]⟩
theorem c226 : chkFn Tryz.prog Tryz.f226 i226 = true:=by kernel_rfl
def F243a : {l : List IC // Tr.fn Tr.TT Tryz.f243 0 [[],[0]] = l}:=⟨_,by cbv⟩
def r243_0 : IC:=Tr.pk F243a.1 0
def r243_1 : IC:=Tr.pk F243a.1 1
noncomputable def i243 : IFn:=⟨0,(.seq r243_0 (.seq r243_1 .ret)),[.tmp 0]⟩
theorem c243 : chkFn Tryz.prog Tryz.f243 i243 = true:=by kernel_rfl
end Go.Proofs.YtmeakjgbjldkdaaGreat.Ai
namespace Go.Proofs.YtmeakjgbjldkdaaGreat.Ai
open Go
variable {pr : Prims} {F : Nat → Option IFn}
def Has (pr : Prims) (F : Nat → Option IFn) (f : Nat) (fn : IFn) : Prop:=pr f = none ∧ F f = some fn
structure LibL (pr : Prims) (F : Nat → Option IFn) : Prop where
 hm : Mono pr
 f89 : Has pr F 89 i89
 f130 : Has pr F 130 i130
 f131 : Has pr F 131 i131
 f132 : Has pr F 132 i132
 f133 : Has pr F 133 i133
 f190 : Has pr F 190 i190
 f191 : Has pr F 191 i191
 f226 : Has pr F 226 i226
 f243 : Has pr F 243 i243
theorem det_of_ex (hm : Mono pr) {f : Nat} {vs : List AV} {S : St} {α : Type} {r : α → Res} {p : α → Prop} (h : Wp pr F f vs S fun r' S' => ∃ a,p a ∧ r' = r a ∧ S' = S) : ∃ a,p a ∧ Det pr F f vs S (r a) S:=by
 obtain ⟨r',S',hd,a,hp,rfl,rfl⟩:=h.det hm
 exact ⟨a,hp,hd⟩
theorem det_in (L : LibL pr F) {S : St} {tag : Tag} {rows : List (List AV)} {x : Str} (hl : rows.length ≤ 1000) (hrows : ∀ r ∈ rows,∃ y,r = [.str y]) :
  ∃ b,True ∧ Det pr F 190 [.list 1 tag rows,.str x] S (.ret (.bool b)) S:=by
 have hm:=L.hm
 refine det_of_ex hm ?_
 obtain ⟨H,rw⟩:=S
 refine at_start hm L.f190.1 L.f190.2 rfl ?_
 refine' hGO
 refine at_loop hm (fun m e S' => S' = ⟨H,rw⟩ ∧ ∃ i : Nat,m + i = rows.length ∧ e = [(0,.list 1 tag rows),(1,.str x),(5,.int .i64 i)]) ?_ (m:=rows.length) ⟨rfl,0,rfl,rfl⟩
 rintro m e S' ⟨rfl,i,hi,rfl⟩
 by_cases h : i < rows.length
 ·obtain ⟨y,hy⟩:=hrows rows[i] (List.getElem_mem h)
  have hr : rows[i]? = some [.str y]:=by rw [List.getElem?_eq_getElem h,hy]
  by_cases hx : y = x
  ·refine' hGO
   exact fin_ret rfl rfl (List.take_length) ⟨_,trivial,rfl,rfl⟩
  ·refine' hGO
   exact ⟨m - 1,by omega,rfl,i + 1,by omega,rfl⟩
 ·refine' hGO
  exact fin_ret rfl rfl (List.take_length) ⟨_,trivial,rfl,rfl⟩
def kindF (c : Nat) : Int:=
 if (97 ≤ c ∧ c ≤ 122) ∨ (65 ≤ c ∧ c ≤ 90) ∨ c = 95 then 1 else if 48 ≤ c ∧ c ≤ 57 then 2 else if c = 32 ∨ c = 9 ∨ c = 10 ∨ c = 13 then 3 else 0
theorem kindF1 (c : Nat) (h : (97 ≤ c ∧ c ≤ 122) ∨ (65 ≤ c ∧ c ≤ 90) ∨ c = 95) : 1 = kindF c:=by unfold kindF; rw [if_pos h]
theorem kindF2 (c : Nat) (h : 48 ≤ c ∧ c ≤ 57) : 2 = kindF c:=by unfold kindF; rw [if_neg (by omega),if_pos h]
theorem kindF3 (c : Nat) (h : c = 32 ∨ c = 9 ∨ c = 10 ∨ c = 13) : 3 = kindF c:=by unfold kindF; rw [if_neg (by omega),if_neg (by omega),if_pos h]
theorem kindF0 (c : Nat) (h : ¬ ((97 ≤ c ∧ c ≤ 122) ∨ (65 ≤ c ∧ c ≤ 90) ∨ c = 95)) (h2 : ¬ (48 ≤ c ∧ c ≤ 57)) (h3 : ¬ (c = 32 ∨ c = 9 ∨ c = 10 ∨ c = 13)) : 0 = kindF c:=by unfold kindF; rw [if_neg h,if_neg h2,if_neg h3]
theorem det_kind (L : LibL pr F) (c : Nat) (S : St) : Det pr F 131 [.int .u8 c] S (.ret (.int .i64 (kindF c))) S:=by
 have hm:=L.hm
 refine Det.of hm ?_
 obtain ⟨H,rw⟩:=S
 refine at_start hm L.f131.1 L.f131.2 rfl ?_
 rcases (show (97 ≤ c ∧ c ≤ 122) ∨ (65 ≤ c ∧ c ≤ 90) ∨ c = 95 ∨ (c > 122) ∨ (90 < c ∧ c < 95) ∨ (95 < c ∧ c < 97) ∨ (57 < c ∧ c < 65) ∨ (48 ≤ c ∧ c ≤ 57) ∨ c = 32 ∨ c = 9 ∨ c = 10 ∨ c = 13 ∨ (c < 48 ∧ c ≠ 32 ∧ c ≠ 9 ∧ c ≠ 10 ∧ c ≠ 13) from by omega) with h | h | h | h | h | h | h | h | h | h | h | h | h
 all_goals
  refine' hGO
  refine fin_ret rfl rfl (List.take_length) ⟨?_,rfl⟩
  simp only [Res.ret.injEq,AV.int.injEq,true_and]
  first | exact kindF1 c (by omega) | exact kindF2 c (by omega) | exact kindF3 c (by omega) | exact kindF0 c (by omega) (by omega) (by omega)
theorem kind_lt (c : Nat) : kindF c = 1 ∨ kindF c = 2 ∨ kindF c = 3 ∨ kindF c = 0:=by
 unfold kindF
 split
 ·simp
 ·split
  ·simp
  ·split <;> simp
theorem det_words (L : LibL pr F) (S : St) : ∃ rows,(rows.length ≤ 1000 ∧ ∀ r ∈ rows,∃ y,r = [.str y]) ∧ Det pr F 243 [] S (.ret (.list 1 .full rows)) S:=by
 have hm:=L.hm
 refine det_of_ex hm ?_
 obtain ⟨H,rw⟩:=S
 refine at_start hm L.f243.1 L.f243.2 rfl ?_
 refine' hGO
 refine fin_ret rfl rfl (List.take_length) ⟨_,?_,rfl,rfl⟩
 refine ⟨by decide,?_⟩
 intro r hr
 simp only [canonL,AV.cells,List.map_cons,List.map_nil,canon1,List.mem_cons,List.not_mem_nil,or_false] at hr
 rcases hr with h | h | h | h | h | h | h | h | h | h | h | h | h | h | h | h | h | h | h | h | h | h | h | h | h | h | h | h <;> exact ⟨_,h⟩
theorem det_isWord (L : LibL pr F) (S : St) (x : Str) : ∃ b,True ∧ Det pr F 226 [.str x] S (.ret (.bool b)) S:=by
 have hm:=L.hm
 refine det_of_ex hm ?_
 obtain ⟨H,rw⟩:=S
 refine at_start hm L.f226.1 L.f226.2 rfl ?_
 obtain ⟨rows,⟨h1,h2⟩,hd⟩:=det_words L ⟨H,rw⟩
 obtain ⟨b,-,hd2⟩:=det_in (x:=x) (tag:=.full) (S:=⟨H,rw⟩) L h1 h2
 refine' hGO
 exact fin_ret rfl rfl (List.take_length) ⟨_,trivial,rfl,rfl⟩
end Go.Proofs.YtmeakjgbjldkdaaGreat.Ai
namespace Go.Proofs.YtmeakjgbjldkdaaGreat.Ai
open Go
variable {pr : Prims} {F : Nat → Option IFn}
theorem det_span (L : LibL pr F) (S : St) (s : Str) (i : Nat) (l : Bool) (hi : i ≤ s.length) (hs : s.length ≤ 100000) :
  ∃ j : Nat,(i ≤ j ∧ j ≤ s.length ∧ ∀ c,s[i]? = some c → (kindF c.toNat = 2 ∨ l = true ∧ kindF c.toNat = 1) → i < j) ∧ Det pr F 132 [.str s,.int .i64 i,.bool l] S (.ret (.int .i64 j)) S:=by
 have hm:=L.hm
 refine det_of_ex hm ?_
 obtain ⟨H,rw⟩:=S
 refine at_start hm L.f132.1 L.f132.2 rfl ?_
 have hk1:=det_kind L
 refine' hGO
 refine at_loop hm (fun m e S' => S' = ⟨H,rw⟩ ∧ ∃ j : Nat,m + j = s.length ∧ i ≤ j ∧ e = [(0,.str s),(1,.int .i64 j),(2,.bool l)]) ?_ (m:=s.length - i) ⟨rfl,i,by omega,by omega,rfl⟩
 rintro m e S' ⟨rfl,j,hj,hij,rfl⟩
 by_cases h : j < s.length
 ·obtain ⟨c,hc⟩ : ∃ c,s[j]? = some c:=⟨_,List.getElem?_eq_getElem h⟩
  by_cases k2 : kindF c.toNat = 2
  ·refine' hGO
   exact ⟨m - 1,by omega,rfl,j + 1,by omega,by omega,rfl⟩
  ·cases l with
   | true =>
    by_cases k1 : kindF c.toNat = 1
    ·refine' hGO
     exact ⟨m - 1,by omega,rfl,j + 1,by omega,by omega,rfl⟩
    ·refine' hGO
     refine fin_ret rfl rfl (List.take_length) ⟨j,⟨hij,by omega,?_⟩,rfl,rfl⟩
     intro c' hc' hk
     by_cases hji : i = j
     ·subst hji; rw [hc] at hc'; cases hc'; omega
     ·omega
   | false =>
    refine' hGO
    refine fin_ret rfl rfl (List.take_length) ⟨j,⟨hij,by omega,?_⟩,rfl,rfl⟩
    intro c' hc' hk
    by_cases hji : i = j
    ·subst hji; rw [hc] at hc'; cases hc'; simp [k2] at hk
    ·omega
 ·refine' hGO
  refine fin_ret rfl rfl (List.take_length) ⟨j,⟨hij,by omega,?_⟩,rfl,rfl⟩
  intro c' hc' hk
  by_cases hji : i = j
  ·subst hji
   have:=(List.getElem?_eq_some_iff.1 hc').1
   omega
  ·omega
end Go.Proofs.YtmeakjgbjldkdaaGreat.Ai
namespace Go.Proofs.YtmeakjgbjldkdaaGreat.Ai
open Go
variable {pr : Prims} {F : Nat → Option IFn}
theorem det_sign (L : LibL pr F) (S : St) (s : Str) (i : Nat) (hi : i < s.length) (hs : s.length ≤ 100000) :
  ∃ n : Nat,i + n ≤ s.length ∧ Det pr F 133 [.str s,.int .i64 i] S (.ret (.int .i64 n)) S:=by
 have hm:=L.hm
 refine det_of_ex hm ?_
 obtain ⟨H,rw⟩:=S
 refine at_start hm L.f133.1 L.f133.2 rfl ?_
 by_cases h2 : i + 2 ≤ s.length
 ·refine' hGO
  refine in_call_ex rfl rfl rfl (det_in L (by decide) (by simp [canonL,canon1,AV.cells])) ?_
  intro b _
  refine ⟨recheck_nil _ _ _,?_⟩
  cases b with
  | true =>
   refine' hGO
   exact fin_ret rfl rfl (List.take_length) ⟨2,h2,rfl,rfl⟩
  | false =>
   refine' hGO
   refine in_call_ex rfl rfl rfl (det_in L (by decide) (by simp [canonL,canon1,AV.cells])) ?_
   intro b _
   refine ⟨recheck_nil _ _ _,?_⟩
   cases b with
   | true =>
    refine' hGO
    exact fin_ret rfl rfl (List.take_length) ⟨1,by omega,rfl,rfl⟩
   | false =>
    refine' hGO
    exact fin_ret rfl rfl (List.take_length) ⟨0,by omega,rfl,rfl⟩
 ·refine' hGO
  refine in_call_ex rfl rfl rfl (det_in L (by decide) (by simp [canonL,canon1,AV.cells])) ?_
  intro b _
  refine ⟨recheck_nil _ _ _,?_⟩
  cases b with
  | true =>
   refine' hGO
   exact fin_ret rfl rfl (List.take_length) ⟨1,by omega,rfl,rfl⟩
  | false =>
   refine' hGO
   exact fin_ret rfl rfl (List.take_length) ⟨0,by omega,rfl,rfl⟩
theorem det_skip (L : LibL pr F) (S : St) (s : Str) (i : Nat) (hi : i ≤ s.length) (hs : s.length ≤ 100000) :
  ∃ j : Nat,(i ≤ j ∧ j ≤ s.length ∧ ∀ c,s[j]? = some c → kindF c.toNat ≠ 3) ∧ Det pr F 130 [.str s,.int .i64 i] S (.ret (.int .i64 j)) S:=by
 have hm:=L.hm
 refine det_of_ex hm ?_
 obtain ⟨H,rw⟩:=S
 refine at_start hm L.f130.1 L.f130.2 rfl ?_
 have hk1:=det_kind L
 refine' hGO
 refine at_loop hm (fun m e S' => S' = ⟨H,rw⟩ ∧ ∃ j : Nat,m + j = s.length ∧ i ≤ j ∧ e = [(0,.str s),(1,.int .i64 j)]) ?_ (m:=s.length - i) ⟨rfl,i,by omega,by omega,rfl⟩
 rintro m e S' ⟨rfl,j,hj,hij,rfl⟩
 by_cases h : j < s.length
 ·obtain ⟨c,hc⟩ : ∃ c,s[j]? = some c:=⟨_,List.getElem?_eq_getElem h⟩
  by_cases k3 : kindF c.toNat = 3
  ·refine' hGO
   exact ⟨m - 1,by omega,rfl,j + 1,by omega,by omega,rfl⟩
  ·by_cases h2 : j + 2 > s.length
   ·refine' hGO
    refine fin_ret rfl rfl (List.take_length) ⟨j,⟨hij,by omega,?_⟩,rfl,rfl⟩
    intro c' hc'; rw [hc] at hc'; cases hc'; exact k3
   ·refine' hGO
    refine at_cond rfl (fun hb => ?_) (fun hb => ?_)
    ·refine' hGO
     refine fin_ret rfl rfl (List.take_length) ⟨j,⟨hij,by omega,?_⟩,rfl,rfl⟩
     intro c' hc'; rw [hc] at hc'; cases hc'; exact k3
    ·refine' hGO
     refine at_loop hm (fun m' e S' => S' = ⟨H,rw⟩ ∧ ∃ j' : Nat,m' + j' = s.length ∧ j ≤ j' ∧ (m = m' → c = 47) ∧ e = [(0,.str s),(1,.int .i64 j')]) ?_ (m:=m) ⟨rfl,j,hj,by omega,?_,rfl⟩
     ·rintro m' e S' ⟨rfl,j',hj',hjj,h47,rfl⟩
      by_cases h : j' < s.length
      ·obtain ⟨c',hc'⟩ : ∃ c,s[j']? = some c:=⟨_,List.getElem?_eq_getElem h⟩
       by_cases k10 : (c'.toNat : Int) = 10
       ·have hne : m ≠ m':=by
         intro hmm
         have : j = j':=by omega
         subst this
         rw [hc] at hc'; cases hc'
         have:=h47 hmm
         subst this
         simp at k10
        refine' hGO
        exact ⟨m',by omega,rfl,j',by omega,by omega,rfl⟩
       ·refine' hGO
        exact ⟨m' - 1,by omega,rfl,j' + 1,by omega,by omega,by omega,rfl⟩
      ·refine' hGO
       exact ⟨m',by omega,rfl,j',by omega,by omega,rfl⟩
     ·intro _
      have h5 : (s.drop j).take 2 = [47,47]:=by
       simp at hb
       have e1 : ((j : Int) + 2).toNat - j = 2:=by omega
       rw [e1] at hb
       exact hb
      have h6 : (s.drop j)[0]? = some 47:=by
       have:=congrArg (fun l => l[0]?) h5
       simp at this
       simpa using this
      simp at h6
      rw [hc] at h6
      cases h6
      rfl
 ·refine' hGO
  refine fin_ret rfl rfl (List.take_length) ⟨j,⟨hij,by omega,?_⟩,rfl,rfl⟩
  intro c' hc'
  have:=(List.getElem?_eq_some_iff.1 hc').1
  omega
end Go.Proofs.YtmeakjgbjldkdaaGreat.Ai
namespace Go.Proofs.YtmeakjgbjldkdaaGreat.Ai
open Go
variable {pr : Prims} {F : Nat → Option IFn}
def Rx (rw0 rw : List Nat) : Prop:=rw0 <+: rw
theorem Rx.rfl {rw : List Nat} : Rx rw rw:=List.prefix_rfl
theorem Rx.trans {a b c : List Nat} (h : Rx a b) (h' : Rx b c) : Rx a c:=List.IsPrefix.trans h h'
theorem Rx.le {a b : List Nat} (h : Rx a b) : a.length ≤ b.length:=h.length_le
theorem Rx.get {a b : List Nat} (h : Rx a b) {r n : Nat} (hr : a[r]? = some n) : b[r]? = some n:=by
 obtain ⟨x,rfl⟩:=h
 rw [List.getElem?_append_left (List.getElem?_eq_some_iff.1 hr).1]
 exact hr
theorem Rx.push {a b : List Nat} (h : Rx a b) (n : Nat) : Rx a (b ++ [n]):=h.trans (List.prefix_append b [n])
theorem Rx.set {a b : List Nat} (h : Rx a b) {r : Nat} (hr : a.length ≤ r) (n : Nat) : Rx a (b.set r n):=by
 obtain ⟨x,rfl⟩:=h
 rw [List.set_append_right _ _ hr]
 exact List.prefix_append _ _
def Grow (rw0 : List Nat) (sz : Nat) (v : AV) (rows : List (List AV)) (rw : List Nat) : Prop:=
 (rows = [] ∧ v = .list 0 .full []) ∨ (rows ≠ [] ∧ ∃ r,v = .list sz (.row r rows.length) rows ∧ rw0.length ≤ r ∧ rw[r]? = some rows.length)
theorem Grow.nil {rw0 rw : List Nat} {sz : Nat} : Grow rw0 sz (.list 0 .full []) [] rw:=.inl ⟨rfl,rfl⟩
theorem Grow.ext {rw0 rw rw' : List Nat} {sz : Nat} {v : AV} {rows : List (List AV)} (h : Grow rw0 sz v rows rw) (hx : Rx rw rw') : Grow rw0 sz v rows rw':=by
 rcases h with h | ⟨h0,r,h1,h2,h3⟩
 ·exact .inl h
 ·exact .inr ⟨h0,r,h1,h2,hx.get h3⟩
theorem Grow.push {rw0 rw : List Nat} {sz by_ : Nat} {v : AV} {rows : List (List AV)} {row : List AV} {H : List Blk} (h : Grow rw0 sz v rows rw) (hx : Rx rw0 rw) (hb : (rows.length + 1) * by_ ≤ maxRow) (hl : rows.length + 1 ≤ maxRow) (hs : 0 < sz) :
  ∃ v' rw',aappend sz by_ v (.list sz .full [row]) ⟨H,rw⟩ = some (v',⟨H,rw'⟩) ∧ Grow rw0 sz v' (rows ++ [row]) rw' ∧ Rx rw0 rw':=by
 rcases h with ⟨rfl,rfl⟩ | ⟨h0,r,rfl,h2,h3⟩
 ·refine ⟨.list sz (.row rw.length 1) [row],rw ++ [1],?_,?_,hx.push 1⟩
  ·simp only [List.length_nil] at hb hl
   simp [aappend,hs]
   exact ⟨by omega,by omega⟩
  ·exact .inr ⟨by simp,rw.length,by simp,hx.le,by simp⟩
 ·refine ⟨.list sz (.row r (rows.length + 1)) (rows ++ [row]),rw.set r (rows.length + 1),?_,?_,hx.set h2 _⟩
  ·simp [aappend,hs,h3]
   exact ⟨by omega,by omega⟩
  ·have hr:=(List.getElem?_eq_some_iff.1 h3).1
   refine .inr ⟨by simp,r,by simp,h2,?_⟩
   rw [List.getElem?_set_self hr]
   simp
def LV (sz : Nat) (v : AV) (rows : List (List AV)) : Prop:=(∃ tag,v = .list sz tag rows) ∨ (rows = [] ∧ v = .list 0 .full [])
theorem Grow.lv {rw0 rw : List Nat} {sz : Nat} {v : AV} {rows : List (List AV)} (h : Grow rw0 sz v rows rw) : LV sz v rows:=by
 rcases h with ⟨h1,h2⟩ | ⟨_,r,h,_⟩
 ·exact .inr ⟨h1,h2⟩
 ·exact .inl ⟨_,h⟩
theorem LV.below {sz : Nat} {v : AV} {rows : List (List AV)} (h : LV sz v rows) (n : Nat) : Ai.below n v = true:=by
 rcases h with ⟨tag,rfl⟩ | ⟨_,rfl⟩ <;> rfl
theorem LV.closed {sz : Nat} {v : AV} {rows : List (List AV)} (h : LV sz v rows) : closed1 v = true:=by
 rcases h with ⟨tag,rfl⟩ | ⟨_,rfl⟩ <;> rfl
structure Tok where
 kind : Int
 text : Str
 at_ : Int
def Tok.row (t : Tok) : List AV:=[.int .i64 t.kind,.str t.text,.int .i64 t.at_]
def TokOk (t : Tok) : Prop:=t.text.length ≤ 6000 ∧ (t.kind = 2 → ∀ c,t.text[0]? = some c → kindF c.toNat = 2)
theorem tok_cut {s : Str} {i n : Nat} {c : UInt8} {k a : Int} (hs : s.length ≤ 6000) (hc : s[i]? = some c) (hk : k = 2 → kindF c.toNat = 2) : TokOk ⟨k,(s.drop i).take n,a⟩:=by
 refine ⟨?_,fun h c' hc' => ?_⟩
 ·simp only [List.length_take,List.length_drop]
  omega
 ·simp only at h hc'
  cases n with
  | zero => simp at hc'
  | succ n =>
   rw [List.getElem?_take_of_lt (by omega),List.getElem?_drop,Nat.add_zero,hc] at hc'
   simp only [Option.some.injEq] at hc'
   subst hc'
   exact hk h
structure LexOut where
 v : AV
 e : Int
 at_ : Int
 toks : List Tok
 rw : List Nat
theorem det_tokens (L : LibL pr F) (H : List Blk) (rw : List Nat) (s : Str) (hs : s.length ≤ 6000) :
  ∃ x : LexOut,(Rx rw x.rw ∧ LV 3 x.v (x.toks.map Tok.row) ∧ x.toks.length ≤ 6000 ∧ ∀ t ∈ x.toks,TokOk t) ∧ Det pr F 89 [.str s] ⟨H,rw⟩ (.ret (.tup [x.v,.int .i64 x.e,.int .i64 x.at_])) ⟨H,x.rw⟩:=by
 have hm:=L.hm
 suffices h : Wp pr F 89 [.str s] ⟨H,rw⟩ fun r S' => ∃ x : LexOut,(Rx rw x.rw ∧ LV 3 x.v (x.toks.map Tok.row) ∧ x.toks.length ≤ 6000 ∧ ∀ t ∈ x.toks,TokOk t) ∧ r = .ret (.tup [x.v,.int .i64 x.e,.int .i64 x.at_]) ∧ S' = ⟨H,x.rw⟩ by
  obtain ⟨r,S',hd,x,hp,rfl,rfl⟩:=h.det hm
  exact ⟨x,hp,hd⟩
 refine at_start hm L.f89.1 L.f89.2 rfl ?_
 have hk1:=det_kind L
 refine' hGO
 refine in_call_ex rfl rfl rfl (det_skip L _ s 0 (by omega) (by omega)) ?_
 rintro i0 ⟨-,hi0,hk0⟩
 refine ⟨recheck_nil _ _ _,?_⟩
 refine' hGO
 refine at_loop hm (fun m e S' => ∃ rw' v toks,S' = ⟨H,rw'⟩ ∧ Rx rw rw' ∧ Grow rw 3 v (toks.map Tok.row) rw' ∧ (∀ t : Tok,t ∈ toks → TokOk t) ∧ ∃ i : Nat,m + i = s.length ∧ toks.length ≤ i ∧ (∀ c,s[i]? = some c → kindF c.toNat ≠ 3) ∧ e = [(0,.str s),(5,v),(6,.int .i64 i)]) ?_ (m:=s.length - i0) ⟨rw,.list 0 .full [],[],rfl,Rx.rfl,Grow.nil,by simp,i0,by omega,by simp,hk0,rfl⟩
 rintro m e S' ⟨rw',v,toks,rfl,hx,hg,ht,i,hi,hti,hk,rfl⟩
 by_cases h : i < s.length
 ·obtain ⟨c,hc⟩ : ∃ c,s[i]? = some c:=⟨_,List.getElem?_eq_getElem h⟩
  have k3:=hk c hc
  obtain ⟨j,⟨hj1,hj2,hj3⟩,hd1⟩:=det_span L ⟨H,rw'⟩ s i true (by omega) (by omega)
  obtain ⟨j',⟨hj1',hj2',hj3'⟩,hd2⟩:=det_span L ⟨H,rw'⟩ s i false (by omega) (by omega)
  rcases kind_lt c.toNat with k | k | k | k
  ·have hij:=hj3 c hc (.inr ⟨rfl,k⟩)
   by_cases h40 : (j : Int) - i > 40
   ·refine' hGO
    exact fin_tup rfl rfl (List.take_length) ⟨⟨.list 0 .full [],_,_,[],rw'⟩,⟨hx,.inr ⟨rfl,rfl⟩,by simp,by simp⟩,rfl,rfl⟩
   ·refine' hGO
    obtain ⟨v2,rw2,ha,hg2,hx2⟩:=hg.push (by_:=32) (H:=H) (row:=Tok.row ⟨kindF c.toNat,(s.drop i).take (j - i),i⟩) hx (by simp only [List.length_map,maxRow]; omega) (by simp only [List.length_map,maxRow]; omega) (by omega)
    refine in_append rfl rfl rfl ha (recheck_nil _ _ _) ?_
    refine' hGO
    refine in_call_ex rfl rfl rfl (det_skip L _ s j (by omega) (by omega)) ?_
    rintro i2 ⟨hi2,hi3,hk2⟩
    refine ⟨recheck_nil _ _ _,?_⟩
    refine' hGO
    refine ⟨s.length - i2,by omega,rw2,v2,toks ++ [⟨kindF c.toNat,(s.drop i).take (j - i),i⟩],rfl,hx2,by rw [List.map_append]; exact hg2,?_,i2,by omega,by simp; omega,hk2,rfl⟩
    intro t htm
    rcases List.mem_append.1 htm with h | h
    ·exact ht t h
    ·rw [List.mem_singleton] at h
     subst h
     exact tok_cut hs hc (by first | exact id | (intro h; omega))
  ·have hij:=hj3' c hc (.inl k)
   by_cases h300 : (j' : Int) - i > 300
   ·refine' hGO
    exact fin_tup rfl rfl (List.take_length) ⟨⟨.list 0 .full [],_,_,[],rw'⟩,⟨hx,.inr ⟨rfl,rfl⟩,by simp,by simp⟩,rfl,rfl⟩
   ·by_cases h48 : (c.toNat : Int) = 48
    ·by_cases h1 : (j' : Int) - i > 1
     ·refine' hGO
      exact fin_tup rfl rfl (List.take_length) ⟨⟨.list 0 .full [],_,_,[],rw'⟩,⟨hx,.inr ⟨rfl,rfl⟩,by simp,by simp⟩,rfl,rfl⟩
     ·by_cases he : j' < s.length
      ·obtain ⟨c2,hc2⟩ : ∃ c,s[j']? = some c:=⟨_,List.getElem?_eq_getElem he⟩
       by_cases hl : kindF c2.toNat = 1
       ·refine' hGO
        exact fin_tup rfl rfl (List.take_length) ⟨⟨.list 0 .full [],_,_,[],rw'⟩,⟨hx,.inr ⟨rfl,rfl⟩,by simp,by simp⟩,rfl,rfl⟩
       ·refine' hGO
        obtain ⟨v2,rw2,ha,hg2,hx2⟩:=hg.push (by_:=32) (H:=H) (row:=Tok.row ⟨kindF c.toNat,(s.drop i).take (j' - i),i⟩) hx (by simp only [List.length_map,maxRow]; omega) (by simp only [List.length_map,maxRow]; omega) (by omega)
        refine in_append rfl rfl rfl ha (recheck_nil _ _ _) ?_
        refine' hGO
        refine in_call_ex rfl rfl rfl (det_skip L _ s j' (by omega) (by omega)) ?_
        rintro i2 ⟨hi2,hi3,hk2⟩
        refine ⟨recheck_nil _ _ _,?_⟩
        refine' hGO
        refine ⟨s.length - i2,by omega,rw2,v2,toks ++ [⟨kindF c.toNat,(s.drop i).take (j' - i),i⟩],rfl,hx2,by rw [List.map_append]; exact hg2,?_,i2,by omega,by simp; omega,hk2,rfl⟩
        intro t htm
        rcases List.mem_append.1 htm with h | h
        ·exact ht t h
        ·rw [List.mem_singleton] at h
         subst h
         exact tok_cut hs hc (by first | exact id | (intro h; omega))
      ·refine' hGO
       obtain ⟨v2,rw2,ha,hg2,hx2⟩:=hg.push (by_:=32) (H:=H) (row:=Tok.row ⟨kindF c.toNat,(s.drop i).take (j' - i),i⟩) hx (by simp only [List.length_map,maxRow]; omega) (by simp only [List.length_map,maxRow]; omega) (by omega)
       refine in_append rfl rfl rfl ha (recheck_nil _ _ _) ?_
       refine' hGO
       refine in_call_ex rfl rfl rfl (det_skip L _ s j' (by omega) (by omega)) ?_
       rintro i2 ⟨hi2,hi3,hk2⟩
       refine ⟨recheck_nil _ _ _,?_⟩
       refine' hGO
       refine ⟨s.length - i2,by omega,rw2,v2,toks ++ [⟨kindF c.toNat,(s.drop i).take (j' - i),i⟩],rfl,hx2,by rw [List.map_append]; exact hg2,?_,i2,by omega,by simp; omega,hk2,rfl⟩
       intro t htm
       rcases List.mem_append.1 htm with h | h
       ·exact ht t h
       ·rw [List.mem_singleton] at h
        subst h
        exact tok_cut hs hc (by first | exact id | (intro h; omega))
    ·by_cases he : j' < s.length
     ·obtain ⟨c2,hc2⟩ : ∃ c,s[j']? = some c:=⟨_,List.getElem?_eq_getElem he⟩
      by_cases hl : kindF c2.toNat = 1
      ·refine' hGO
       exact fin_tup rfl rfl (List.take_length) ⟨⟨.list 0 .full [],_,_,[],rw'⟩,⟨hx,.inr ⟨rfl,rfl⟩,by simp,by simp⟩,rfl,rfl⟩
      ·refine' hGO
       obtain ⟨v2,rw2,ha,hg2,hx2⟩:=hg.push (by_:=32) (H:=H) (row:=Tok.row ⟨kindF c.toNat,(s.drop i).take (j' - i),i⟩) hx (by simp only [List.length_map,maxRow]; omega) (by simp only [List.length_map,maxRow]; omega) (by omega)
       refine in_append rfl rfl rfl ha (recheck_nil _ _ _) ?_
       refine' hGO
       refine in_call_ex rfl rfl rfl (det_skip L _ s j' (by omega) (by omega)) ?_
       rintro i2 ⟨hi2,hi3,hk2⟩
       refine ⟨recheck_nil _ _ _,?_⟩
       refine' hGO
       refine ⟨s.length - i2,by omega,rw2,v2,toks ++ [⟨kindF c.toNat,(s.drop i).take (j' - i),i⟩],rfl,hx2,by rw [List.map_append]; exact hg2,?_,i2,by omega,by simp; omega,hk2,rfl⟩
       intro t htm
       rcases List.mem_append.1 htm with h | h
       ·exact ht t h
       ·rw [List.mem_singleton] at h
        subst h
        exact tok_cut hs hc (by first | exact id | (intro h; omega))
     ·refine' hGO
      obtain ⟨v2,rw2,ha,hg2,hx2⟩:=hg.push (by_:=32) (H:=H) (row:=Tok.row ⟨kindF c.toNat,(s.drop i).take (j' - i),i⟩) hx (by simp only [List.length_map,maxRow]; omega) (by simp only [List.length_map,maxRow]; omega) (by omega)
      refine in_append rfl rfl rfl ha (recheck_nil _ _ _) ?_
      refine' hGO
      refine in_call_ex rfl rfl rfl (det_skip L _ s j' (by omega) (by omega)) ?_
      rintro i2 ⟨hi2,hi3,hk2⟩
      refine ⟨recheck_nil _ _ _,?_⟩
      refine' hGO
      refine ⟨s.length - i2,by omega,rw2,v2,toks ++ [⟨kindF c.toNat,(s.drop i).take (j' - i),i⟩],rfl,hx2,by rw [List.map_append]; exact hg2,?_,i2,by omega,by simp; omega,hk2,rfl⟩
      intro t htm
      rcases List.mem_append.1 htm with h | h
      ·exact ht t h
      ·rw [List.mem_singleton] at h
       subst h
       exact tok_cut hs hc (by first | exact id | (intro h; omega))
  ·omega
  ·obtain ⟨n,hn,hd3⟩:=det_sign L ⟨H,rw'⟩ s i h (by omega)
   by_cases h0 : n = 0
   ·subst h0
    refine' hGO
    exact fin_tup rfl rfl (List.take_length) ⟨⟨.list 0 .full [],_,_,[],rw'⟩,⟨hx,.inr ⟨rfl,rfl⟩,by simp,by simp⟩,rfl,rfl⟩
   ·refine' hGO
    obtain ⟨v2,rw2,ha,hg2,hx2⟩:=hg.push (by_:=32) (H:=H) (row:=Tok.row ⟨3,(s.drop i).take ((i + n) - i),i⟩) hx (by simp only [List.length_map,maxRow]; omega) (by simp only [List.length_map,maxRow]; omega) (by omega)
    refine in_append rfl rfl rfl ha (recheck_nil _ _ _) ?_
    refine' hGO
    refine in_call_ex rfl rfl rfl (det_skip L _ s (i + n) (by omega) (by omega)) ?_
    rintro i2 ⟨hi2,hi3,hk2⟩
    refine ⟨recheck_nil _ _ _,?_⟩
    refine' hGO
    refine ⟨s.length - i2,by omega,rw2,v2,toks ++ [⟨3,(s.drop i).take ((i + n) - i),i⟩],rfl,hx2,by rw [List.map_append]; exact hg2,?_,i2,by omega,by simp; omega,hk2,rfl⟩
    intro t htm
    rcases List.mem_append.1 htm with h | h
    ·exact ht t h
    ·rw [List.mem_singleton] at h
     subst h
     exact tok_cut hs hc (by first | exact id | (intro h; omega))
 ·refine' hGO
  refine fin_tup rfl (by simp only [belowL,hg.lv.below,Ai.below]; rfl) (List.take_length) ⟨⟨v,0,0,toks,rw'⟩,⟨hx,hg.lv,?_,ht⟩,rfl,rfl⟩
  simp only
  omega
end Go.Proofs.YtmeakjgbjldkdaaGreat.Ai
namespace Go.Proofs.YtmeakjgbjldkdaaGreat.Ai
open Go
variable {pr : Prims} {F : Nat → Option IFn}
structure Nm (s : Str) : Prop where
 len : s.length ≤ 40
 pos : 0 < s.length
 first : ∀ c,s[0]? = some c → kindF c.toNat = 1
 all : ∀ c ∈ s,kindF c.toNat = 1 ∨ kindF c.toNat = 2
theorem det_isNm (L : LibL pr F) (S : St) (s : Str) : ∃ b,(b = true → Nm s) ∧ Det pr F 191 [.str s] S (.ret (.bool b)) S:=by
 have hm:=L.hm
 refine det_of_ex hm ?_
 obtain ⟨H,rw⟩:=S
 refine at_start hm L.f191.1 L.f191.2 rfl ?_
 have hk1:=det_kind L
 obtain ⟨b,-,hd⟩:=det_isWord L ⟨H,rw⟩ s
 by_cases h0 : s.length = 0
 ·refine' hGO
  exact fin_ret rfl rfl (List.take_length) ⟨_,by simp,rfl,rfl⟩
 by_cases h1 : s.length > 40
 ·refine' hGO
  exact fin_ret rfl rfl (List.take_length) ⟨_,by simp,rfl,rfl⟩
 obtain ⟨c,hc⟩ : ∃ c,s[0]? = some c:=⟨_,List.getElem?_eq_getElem (by omega)⟩
 by_cases h2 : kindF c.toNat = 1
 ·cases b with
  | true =>
   refine' hGO
   exact fin_ret rfl rfl (List.take_length) ⟨_,by simp,rfl,rfl⟩
  | false =>
   have hN : (∀ c ∈ s,kindF c.toNat = 1 ∨ kindF c.toNat = 2) → Nm s:=fun h => ⟨by omega,by omega,fun c' hc' => by rw [hc] at hc'; cases hc'; exact h2,h⟩
   refine' hGO
   refine at_loop hm (fun m e S' => S' = ⟨H,rw⟩ ∧ ∃ i : Nat,m + i = s.length ∧ (∀ c ∈ s.take i,kindF c.toNat = 1 ∨ kindF c.toNat = 2) ∧ e = [(0,.str s),(3,.int .i64 i)]) ?_ (m:=s.length) ⟨rfl,0,rfl,by simp,rfl⟩
   rintro m e S' ⟨rfl,i,hi,hall,rfl⟩
   by_cases h : i < s.length
   ·obtain ⟨c,hc⟩ : ∃ c,s[i]? = some c:=⟨_,List.getElem?_eq_getElem h⟩
    have hall' : (kindF c.toNat = 1 ∨ kindF c.toNat = 2) → ∀ c ∈ s.take (i + 1),kindF c.toNat = 1 ∨ kindF c.toNat = 2:=by
     intro hk x hx
     have hx2 : x ∈ s.take i ++ [c]:=by
      rw [List.take_add_one,hc] at hx
      exact hx
     rcases List.mem_append.1 hx2 with hx2 | hx2
     ·exact hall x hx2
     ·rw [List.mem_singleton] at hx2; subst hx2; exact hk
    by_cases k1 : kindF c.toNat = 1
    ·refine' hGO
     exact ⟨m - 1,by omega,rfl,i + 1,by omega,hall' (.inl k1),rfl⟩
    ·by_cases k2 : kindF c.toNat = 2
     ·refine' hGO
      exact ⟨m - 1,by omega,rfl,i + 1,by omega,hall' (.inr k2),rfl⟩
     ·refine' hGO
      exact fin_ret rfl rfl (List.take_length) ⟨_,by simp,rfl,rfl⟩
   ·refine' hGO
    have hi2 : i = s.length:=by omega
    subst hi2
    rw [List.take_length] at hall
    exact fin_ret rfl rfl (List.take_length) ⟨_,fun _ => hN hall,rfl,rfl⟩
 ·refine' hGO
  exact fin_ret rfl rfl (List.take_length) ⟨_,by simp,rfl,rfl⟩
end Go.Proofs.YtmeakjgbjldkdaaGreat.Ai
namespace Go.Proofs.YtmeakjgbjldkdaaGreat.Ai
open Go
mutual
inductive Ty where
 | mk (kind : Int) (name : Str) (null : Bool) (elem : List Ty) (pred : List Xp) (at_ : Int)
inductive Xp where
 | mk (op name : Str) (args : List Xp) (ty : List Ty) (at_ : Int)
end
inductive Sm where
 | mk (kind name : Str) (ty : List Ty) (exs : List Xp) (body els : List Sm) (at_ : Int)
structure Par where
 name : Str
 type : Ty
 at_ : Int
structure Fld where
 name : Str
 type : Ty
 fin : Bool
 at_ : Int
structure Mth where
 name : Str
 params : List Par
 result : Ty
 body : List Sm
 abs : Bool
 at_ : Int
structure Ctr where
 params : List Par
 hasSuper : Bool
 super : List Xp
 body : List Sm
 at_ : Int
structure Cls where
 name : Str
 iface : Bool
 super : Str
 above : List Str
 fields : List Fld
 invs : List Xp
 ctors : List Ctr
 meths : List Mth
 at_ : Int
structure Prg where
 classes : List Cls
 main : List Sm
def lst (sz : Nat) : List (List AV) → AV
 | [] => .list 0 .full []
 | r :: rs => .list sz .dead (r :: rs)
mutual
def tyRow : Ty → List AV
 | .mk kind name null elem pred at_ => [.int .i64 kind,.str name,.bool null,lst 6 (tyRows elem),lst 5 (exRows pred),.int .i64 at_]
def tyRows : List Ty → List (List AV)
 | [] => []
 | t :: ts => tyRow t :: tyRows ts
def exRow : Xp → List AV
 | .mk op name args ty at_ => [.str op,.str name,lst 5 (exRows args),lst 6 (tyRows ty),.int .i64 at_]
def exRows : List Xp → List (List AV)
 | [] => []
 | x :: xs => exRow x :: exRows xs
end
mutual
def smRow : Sm → List AV
 | .mk kind name ty exs body els at_ => [.str kind,.str name,lst 6 (tyRows ty),lst 5 (exRows exs),lst 7 (smRows body),lst 7 (smRows els),.int .i64 at_]
def smRows : List Sm → List (List AV)
 | [] => []
 | x :: xs => smRow x :: smRows xs
end
def parRow (p : Par) : List AV:=.str p.name :: (tyRow p.type ++ [.int .i64 p.at_])
def fldRow (p : Fld) : List AV:=.str p.name :: (tyRow p.type ++ [.bool p.fin,.int .i64 p.at_])
def mthRow (p : Mth) : List AV:=.str p.name :: lst 8 (p.params.map parRow) :: (tyRow p.result ++ [lst 7 (smRows p.body),.bool p.abs,.int .i64 p.at_])
def ctrRow (p : Ctr) : List AV:=[lst 8 (p.params.map parRow),.bool p.hasSuper,lst 5 (exRows p.super),lst 7 (smRows p.body),.int .i64 p.at_]
def nmRow (x : Str) : List AV:=[.str x]
def clsRow (c : Cls) : List AV:=[.str c.name,.bool c.iface,.str c.super,lst 1 (c.above.map nmRow),lst 9 (c.fields.map fldRow),lst 5 (exRows c.invs),lst 5 (c.ctors.map ctrRow),lst 11 (c.meths.map mthRow),.int .i64 c.at_]
def prgRow (p : Prg) : List AV:=[lst 9 (p.classes.map clsRow),lst 7 (smRows p.main)]
mutual
def wTy : Ty → Nat
 | .mk _ name _ elem pred _ => 1 + name.length + wTys elem + wExs pred
def wTys : List Ty → Nat
 | [] => 0
 | t :: ts => wTy t + wTys ts
def wEx : Xp → Nat
 | .mk op name args ty _ => 1 + op.length + name.length + wExs args + wTys ty
def wExs : List Xp → Nat
 | [] => 0
 | x :: xs => wEx x + wExs xs
end
mutual
def wSm : Sm → Nat
 | .mk kind name ty exs body els _ => 1 + kind.length + name.length + wTys ty + wExs exs + wSms body + wSms els
def wSms : List Sm → Nat
 | [] => 0
 | x :: xs => wSm x + wSms xs
end
def wPar (p : Par) : Nat:=1 + p.name.length + wTy p.type
def wL {α : Type} (w : α → Nat) : List α → Nat
 | [] => 0
 | x :: xs => w x + wL w xs
def wFld (p : Fld) : Nat:=1 + p.name.length + wTy p.type
def wMth (p : Mth) : Nat:=1 + p.name.length + wL wPar p.params + wTy p.result + wSms p.body
def wCtr (p : Ctr) : Nat:=1 + wL wPar p.params + wExs p.super + wSms p.body
def wNm (x : Str) : Nat:=1 + x.length
def wCls (c : Cls) : Nat:=1 + c.name.length + c.super.length + wL wNm c.above + wL wFld c.fields + wExs c.invs + wL wCtr c.ctors + wL wMth c.meths
def levelF (x : Str) : Int:=
 if x = [61,62] then 0 else if x = [124,124] then 1 else if x = [38,38] then 2
 else if x = [61,61] ∨ x = [33,61] ∨ x = [60] ∨ x = [60,61] ∨ x = [62] ∨ x = [62,61] then 3
 else if x = [43] ∨ x = [45] then 4 else if x = [42] ∨ x = [47] ∨ x = [37] then 5 else -1
def okOp (op name : Str) (args : List Xp) (ty : List Ty) : Prop:=
 (op = [110,117,109] ∧ args = [] ∧ ty = [] ∧ ∀ c,name[0]? = some c → kindF c.toNat = 2) ∨ (op = [118,97,114] ∧ args = [] ∧ ty = [] ∧ Nm name) ∨
 ((op = [116,114,117,101] ∨ op = [102,97,108,115,101] ∨ op = [110,117,108,108] ∨ op = [116,104,105,115] ∨ op = [114,101,97,100]) ∧ args = [] ∧ ty = [] ∧ name = []) ∨
 (op = [108,101,110] ∧ (∃ a,args = [a]) ∧ ty = [] ∧ name = []) ∨ (op = [110,101,119] ∧ ty = [] ∧ Nm name) ∨ (op = [108,105,115,116] ∧ (∃ a b,args = [a,b]) ∧ (∃ t,ty = [t]) ∧ name = []) ∨
 (op = [102,105,101,108,100] ∧ (∃ a,args = [a]) ∧ ty = [] ∧ Nm name) ∨ (op = [99,97,108,108] ∧ (∃ a l,args = a :: l) ∧ ty = [] ∧ Nm name) ∨ (op = [105,110,100,101,120] ∧ (∃ a b,args = [a,b]) ∧ ty = [] ∧ name = []) ∨
 ((op = [110,101,103] ∨ op = [110,111,116]) ∧ (∃ a,args = [a]) ∧ ty = [] ∧ name = []) ∨ (0 ≤ levelF op ∧ (∃ a b,args = [a,b]) ∧ ty = [] ∧ name = [])
mutual
def okTy : Ty → Prop
 | .mk kind name null elem pred _ => ((kind = 1 ∧ elem = [] ∧ name = [] ∧ null = false) ∨ (kind = 2 ∧ elem = [] ∧ name = [] ∧ null = false) ∨ (kind = 3 ∧ elem = [] ∧ Nm name) ∨ (kind = 4 ∧ name = [] ∧ ∃ t,elem = [t])) ∧ pred.length ≤ 1 ∧ okTys elem ∧ okExs pred
def okTys : List Ty → Prop
 | [] => True
 | t :: ts => okTy t ∧ okTys ts
def okEx : Xp → Prop
 | .mk op name args ty _ => okOp op name args ty ∧ okExs args ∧ okTys ty
def okExs : List Xp → Prop
 | [] => True
 | x :: xs => okEx x ∧ okExs xs
end
def okKind (kind name : Str) (ty : List Ty) (exs : List Xp) (body els : List Sm) : Prop:=
 (kind = [108,101,116] ∧ Nm name ∧ ty.length ≤ 1 ∧ (∃ a,exs = [a]) ∧ body = [] ∧ els = []) ∨ (kind = [115,101,116] ∧ Nm name ∧ ty = [] ∧ (∃ a,exs = [a]) ∧ body = [] ∧ els = []) ∨
 (kind = [102,105,101,108,100] ∧ Nm name ∧ ty = [] ∧ (∃ a b,exs = [a,b]) ∧ body = [] ∧ els = []) ∨ (kind = [101,108,101,109] ∧ name = [] ∧ ty = [] ∧ (∃ a b c,exs = [a,b,c]) ∧ body = [] ∧ els = []) ∨
 (kind = [105,102] ∧ name = [] ∧ ty = [] ∧ (∃ a,exs = [a])) ∨ (kind = [119,104,105,108,101] ∧ name = [] ∧ ty = [] ∧ (∃ a l,exs = a :: l) ∧ els = []) ∨
 (kind = [114,101,116,117,114,110] ∧ name = [] ∧ ty = [] ∧ exs.length ≤ 1 ∧ body = [] ∧ els = []) ∨ ((kind = [97,115,115,101,114,116] ∨ kind = [112,114,105,110,116] ∨ kind = [100,111]) ∧ name = [] ∧ ty = [] ∧ (∃ a,exs = [a]) ∧ body = [] ∧ els = [])
mutual
def okSm : Sm → Prop
 | .mk kind name ty exs body els _ => okKind kind name ty exs body els ∧ okTys ty ∧ okExs exs ∧ okSms body ∧ okSms els
def okSms : List Sm → Prop
 | [] => True
 | x :: xs => okSm x ∧ okSms xs
end
def okPar (p : Par) : Prop:=Nm p.name ∧ okTy p.type
def okFld (p : Fld) : Prop:=Nm p.name ∧ okTy p.type
def isVoid (t : Ty) : Prop:=∃ a,t = .mk 0 [] false [] [] a
def okMth (p : Mth) : Prop:=Nm p.name ∧ (∀ x ∈ p.params,okPar x) ∧ (okTy p.result ∨ isVoid p.result) ∧ okSms p.body
def okCtr (p : Ctr) : Prop:=(∀ x ∈ p.params,okPar x) ∧ okExs p.super ∧ okSms p.body
def okCls (c : Cls) : Prop:=Nm c.name ∧ (c.super = [] ∨ (Nm c.super ∧ c.iface = false)) ∧ (∀ x ∈ c.above,Nm x) ∧ (∀ x ∈ c.fields,okFld x) ∧ okExs c.invs ∧ (∀ x ∈ c.ctors,okCtr x) ∧ (∀ x ∈ c.meths,okMth x)
def okPrg (p : Prg) : Prop:=(∀ c ∈ p.classes,okCls c) ∧ okSms p.main
theorem tyRows_map (ts : List Ty) : tyRows ts = ts.map tyRow:=by
 induction ts with
 | nil => simp [tyRows]
 | cons t ts ih => simp [tyRows,ih]
theorem exRows_map (xs : List Xp) : exRows xs = xs.map exRow:=by
 induction xs with
 | nil => simp [exRows]
 | cons t ts ih => simp [exRows,ih]
theorem smRows_map (xs : List Sm) : smRows xs = xs.map smRow:=by
 induction xs with
 | nil => simp [smRows]
 | cons t ts ih => simp [smRows,ih]
theorem exRows_append (a b : List Xp) : exRows (a ++ b) = exRows a ++ exRows b:=by simp [exRows_map]
theorem wExs_append (a b : List Xp) : wExs (a ++ b) = wExs a + wExs b:=by
 induction a with
 | nil => simp [wExs]
 | cons x xs ih => simp [wExs,ih]; omega
theorem wSms_append (a b : List Sm) : wSms (a ++ b) = wSms a + wSms b:=by
 induction a with
 | nil => simp [wSms]
 | cons x xs ih => simp [wSms,ih]; omega
theorem wL_append {α : Type} (w : α → Nat) (a b : List α) : wL w (a ++ b) = wL w a + wL w b:=by
 induction a with
 | nil => simp [wL]
 | cons x xs ih => simp [wL,ih]; omega
theorem okExs_append (a b : List Xp) : okExs (a ++ b) ↔ okExs a ∧ okExs b:=by
 induction a with
 | nil => simp [okExs]
 | cons x xs ih => simp [okExs,ih,and_assoc]
theorem okSms_append (a b : List Sm) : okSms (a ++ b) ↔ okSms a ∧ okSms b:=by
 induction a with
 | nil => simp [okSms]
 | cons x xs ih => simp [okSms,ih,and_assoc]
theorem exRows_len (xs : List Xp) : (exRows xs).length = xs.length:=by simp [exRows_map]
theorem tyRows_len (xs : List Ty) : (tyRows xs).length = xs.length:=by simp [tyRows_map]
theorem smRows_len (xs : List Sm) : (smRows xs).length = xs.length:=by simp [smRows_map]
theorem canon_lst (sz : Nat) (rows : List (List AV)) : canon1 (lst sz rows) = lst sz rows:=by
 cases rows <;> rfl
theorem closed_lst (sz : Nat) (rows : List (List AV)) : closed1 (lst sz rows) = true:=by cases rows <;> rfl
theorem lst_nil (sz : Nat) : lst sz [] = .list 0 .full []:=rfl
theorem canon_str (x : Str) : canon1 (.str x) = .str x:=rfl
theorem canon_int (k : IntKind) (x : Int) : canon1 (.int k x) = .int k x:=rfl
theorem canon_bool (x : Bool) : canon1 (.bool x) = .bool x:=rfl
theorem canon_nil : canon1 (.list 0 .full []) = .list 0 .full []:=rfl
structure Row (n : Nat) (r : List AV) : Prop where
 len : r.length = n
 can : canonL r = r
 clo : closedL r = true
theorem row_ty (t : Ty) : Row 6 (tyRow t):=by
 obtain ⟨kind,name,null,elem,pred,at_⟩:=t
 exact ⟨rfl,by show [_,_,_,canon1 (lst 6 (tyRows elem)),canon1 (lst 5 (exRows pred)),_] = _; rw [canon_lst,canon_lst]; rfl,by simp only [tyRow,closedL,closed1,closed_lst,Bool.and_self]⟩
theorem row_ex (t : Xp) : Row 5 (exRow t):=by
 obtain ⟨op,name,args,ty,at_⟩:=t
 exact ⟨rfl,by show [_,_,canon1 (lst 5 (exRows args)),canon1 (lst 6 (tyRows ty)),_] = _; rw [canon_lst,canon_lst]; rfl,by simp only [exRow,closedL,closed1,closed_lst,Bool.and_self]⟩
theorem row_sm (t : Sm) : Row 7 (smRow t):=by
 obtain ⟨kind,name,ty,exs,body,els,at_⟩:=t
 exact ⟨rfl,by show [_,_,canon1 (lst 6 (tyRows ty)),canon1 (lst 5 (exRows exs)),canon1 (lst 7 (smRows body)),canon1 (lst 7 (smRows els)),_] = _; simp only [canon_lst]; rfl,by simp only [smRow,closedL,closed1,closed_lst,Bool.and_self]⟩
theorem row_par (p : Par) : Row 8 (parRow p):=by
 have h:=row_ty p.type
 exact ⟨by simp [parRow,h.len],by
  show canon1 _ :: canonL (tyRow p.type ++ [_]) = _
  simp only [canonL,List.map_append]
  have:=h.can
  simp only [canonL] at this
  rw [this]; rfl,by
  simp only [parRow,closedL]
  have:=h.clo
  obtain ⟨kind,name,null,elem,pred,at_⟩:=p.type
  simp only [tyRow,List.cons_append,List.nil_append,closedL,closed1,closed_lst,Bool.and_self]⟩
theorem row_fld (p : Fld) : Row 9 (fldRow p):=by
 have h:=row_ty p.type
 exact ⟨by simp [fldRow,h.len],by
  show canon1 _ :: canonL (tyRow p.type ++ [_,_]) = _
  simp only [canonL,List.map_append]
  have:=h.can
  simp only [canonL] at this
  rw [this]; rfl,by
  simp only [fldRow,closedL]
  obtain ⟨kind,name,null,elem,pred,at_⟩:=p.type
  simp only [tyRow,List.cons_append,List.nil_append,closedL,closed1,closed_lst,Bool.and_self]⟩
theorem row_mth (p : Mth) : Row 11 (mthRow p):=by
 have h:=row_ty p.result
 exact ⟨by simp [mthRow,h.len],by
  show canon1 _ :: canon1 _ :: canonL (tyRow p.result ++ [_,_,_]) = _
  simp only [canonL,List.map_append,canon_lst]
  have:=h.can
  simp only [canonL] at this
  rw [this]
  simp only [List.map_cons,List.map_nil,canon_lst]
  rfl,by
  simp only [mthRow,closedL]
  obtain ⟨kind,name,null,elem,pred,at_⟩:=p.result
  simp only [tyRow,List.cons_append,List.nil_append,closedL,closed1,closed_lst,Bool.and_self]⟩
theorem row_ctr (p : Ctr) : Row 5 (ctrRow p):=
 ⟨rfl,by show [canon1 (lst 8 _),_,canon1 (lst 5 _),canon1 (lst 7 _),_] = _; simp only [canon_lst]; rfl,by simp only [ctrRow,closedL,closed1,closed_lst,Bool.and_self]⟩
theorem row_nm (x : Str) : Row 1 (nmRow x):=⟨rfl,rfl,rfl⟩
theorem row_cls (p : Cls) : Row 9 (clsRow p):=
 ⟨rfl,by show [_,_,_,canon1 (lst 1 _),canon1 (lst 9 _),canon1 (lst 5 _),canon1 (lst 5 _),canon1 (lst 11 _),_] = _; simp only [canon_lst]; rfl,by simp only [clsRow,closedL,closed1,closed_lst,Bool.and_self]⟩
theorem row_prg (p : Prg) : Row 2 (prgRow p):=
 ⟨rfl,by show [canon1 (lst 9 _),canon1 (lst 7 _)] = _; simp only [canon_lst]; rfl,by simp only [prgRow,closedL,closed_lst,Bool.and_self]⟩
theorem Row.load {n : Nat} {r : List AV} (h : Row n r) : aload (some n) (.ptr 0 0) [.cells r] = some (.agg r):=by
 simp only [aload,List.getElem?_cons_zero,h.len,Nat.zero_add,Nat.le_refl,if_true,List.drop_zero]
 rw [List.take_of_length_le (by rw [h.len]; exact Nat.le_refl _),h.can]
theorem Row.below {n : Nat} {r : List AV} (h : Row n r) (k : Nat) : Ai.below k (.agg r) = true:=below_of_closed k _ (by simp only [closed1]; exact h.clo)
theorem Row.rows1 {n : Nat} {r : List AV} (h : Row n r) : rowsOf n [.agg r] = some [r]:=by
 simp only [rowsOf,AV.cells,h.len,closed1,h.clo,AV.okv,h.can,and_self,if_true,Option.map_some]
theorem Row.rows2 {n : Nat} {r q : List AV} (h : Row n r) (h' : Row n q) : rowsOf n [.agg r,.agg q] = some [r,q]:=by
 simp only [rowsOf,AV.cells,h.len,closed1,h.clo,h'.len,h'.clo,AV.okv,h.can,h'.can,and_self,if_true,Option.map_some]
end Go.Proofs.YtmeakjgbjldkdaaGreat.Ai
namespace Go.Proofs.YtmeakjgbjldkdaaGreat.Ai
open Go
def Lst (rw0 : List Nat) (sz : Nat) (v : AV) (rows : List (List AV)) (rw : List Nat) : Prop:=Grow rw0 sz v rows rw ∨ (rows ≠ [] ∧ v = .list sz .full rows)
theorem Lst.ext {rw0 rw rw' : List Nat} {sz : Nat} {v : AV} {rows : List (List AV)} (h : Lst rw0 sz v rows rw) (hx : Rx rw rw') : Lst rw0 sz v rows rw':=h.imp (fun h => h.ext hx) id
theorem Lst.push {rw0 rw : List Nat} {sz by_ : Nat} {v : AV} {rows : List (List AV)} {row : List AV} {H : List Blk} (h : Lst rw0 sz v rows rw) (hx : Rx rw0 rw) (hb : (rows.length + 1) * by_ ≤ maxRow) (hl : rows.length + 1 ≤ maxRow) (hs : 0 < sz) :
  ∃ v' rw',aappend sz by_ v (.list sz .full [row]) ⟨H,rw⟩ = some (v',⟨H,rw'⟩) ∧ Lst rw0 sz v' (rows ++ [row]) rw' ∧ Rx rw0 rw':=by
 rcases h with h | ⟨h0,rfl⟩
 ·obtain ⟨v',rw',h1,h2,h3⟩:=h.push (H:=H) (row:=row) hx hb hl hs
  exact ⟨v',rw',h1,.inl h2,h3⟩
 ·refine ⟨.list sz (.row rw.length (rows.length + 1)) (rows ++ [row]),rw ++ [rows.length + 1],?_,?_,hx.push _⟩
  ·simp [aappend,hs]
   exact ⟨by omega,by omega⟩
  ·exact .inl (.inr ⟨by simp,rw.length,by simp,hx.le,by simp⟩)
def rowOf : AV → Option Nat
 | .list _ (.row a _) _ => some a
 | _ => none
def Disj (v v2 : AV) : Prop:=∀ a,rowOf v = some a → rowOf v2 ≠ some a
theorem Disj.symm {v v2 : AV} (h : Disj v v2) : Disj v2 v:=fun a h1 h2 => h a h2 h1
theorem Lst.nil {rw0 rw : List Nat} {sz : Nat} : Lst rw0 sz (.list 0 .full []) [] rw:=.inl Grow.nil
theorem Lst.lit {rw0 rw : List Nat} {sz : Nat} {rows : List (List AV)} (h : rows ≠ []) : Lst rw0 sz (.list sz .full rows) rows rw:=.inr ⟨h,rfl⟩
theorem Lst.row_lt {rw0 rw : List Nat} {sz : Nat} {v : AV} {rows : List (List AV)} (h : Lst rw0 sz v rows rw) {a : Nat} (ha : rowOf v = some a) : a < rw.length:=by
 rcases h with (⟨rfl,rfl⟩ | ⟨h0,r,rfl,h1,h2⟩) | ⟨h0,rfl⟩
 ·simp [rowOf] at ha
 ·simp only [rowOf,Option.some.injEq] at ha
  subst ha
  exact (List.getElem?_eq_some_iff.1 h2).1
 ·simp [rowOf] at ha
theorem Lst.push2 {rw0 rw : List Nat} {sz by_ : Nat} {v : AV} {rows : List (List AV)} {row : List AV} {H : List Blk} (h : Lst rw0 sz v rows rw) (hx : Rx rw0 rw) (hb : (rows.length + 1) * by_ ≤ maxRow) (hl : rows.length + 1 ≤ maxRow) (hs : 0 < sz)
  {sz2 : Nat} {v2 : AV} {rows2 : List (List AV)} (h2 : Lst rw0 sz2 v2 rows2 rw) (hd : Disj v v2) :
  ∃ v' rw',aappend sz by_ v (.list sz .full [row]) ⟨H,rw⟩ = some (v',⟨H,rw'⟩) ∧ Lst rw0 sz v' (rows ++ [row]) rw' ∧ Rx rw0 rw' ∧ Lst rw0 sz2 v2 rows2 rw' ∧ Disj v' v2:=by
 have new : ∀ k,Lst rw0 sz2 v2 rows2 (rw ++ [k]) ∧ Disj (.list sz (.row rw.length k) (rows ++ [row])) v2:=by
  intro k
  refine ⟨h2.ext (List.prefix_append _ _),fun a ha hb => ?_⟩
  simp only [rowOf,Option.some.injEq] at ha
  have:=h2.row_lt hb
  omega
 rcases h with (⟨rfl,rfl⟩ | ⟨h0,r,rfl,h1,h3⟩) | ⟨h0,rfl⟩
 ·refine ⟨.list sz (.row rw.length 1) [row],rw ++ [1],?_,?_,hx.push 1,new 1⟩
  ·simp only [List.length_nil] at hb hl
   simp [aappend,hs]
   exact ⟨by omega,by omega⟩
  ·exact .inl (.inr ⟨by simp,rw.length,by simp,hx.le,by simp⟩)
 ·refine ⟨.list sz (.row r (rows.length + 1)) (rows ++ [row]),rw.set r (rows.length + 1),?_,?_,hx.set h1 _,?_,?_⟩
  ·simp [aappend,hs,h3]
   exact ⟨by omega,by omega⟩
  ·have hr:=(List.getElem?_eq_some_iff.1 h3).1
   refine .inl (.inr ⟨by simp,r,by simp,h1,?_⟩)
   rw [List.getElem?_set_self hr]
   simp
  ·rcases h2 with (⟨rfl,rfl⟩ | ⟨g0,r2,rfl,g1,g3⟩) | ⟨g0,rfl⟩
   ·exact .inl (.inl ⟨rfl,rfl⟩)
   ·have hne : r ≠ r2:=by
     intro hrr
     exact hd r rfl (by rw [hrr]; rfl)
    exact .inl (.inr ⟨g0,r2,rfl,g1,by rw [List.getElem?_set_ne hne]; exact g3⟩)
   ·exact .inr ⟨g0,rfl⟩
  ·intro a ha hb
   simp only [rowOf,Option.some.injEq] at ha
   subst ha
   exact hd r rfl hb
 ·refine ⟨.list sz (.row rw.length (rows.length + 1)) (rows ++ [row]),rw ++ [rows.length + 1],?_,?_,hx.push _,new _⟩
  ·simp [aappend,hs]
   exact ⟨by omega,by omega⟩
  ·exact .inl (.inr ⟨by simp,rw.length,by simp,hx.le,by simp⟩)
theorem Lst.tag {rw0 rw : List Nat} {sz : Nat} {v : AV} {rows : List (List AV)} (h : Lst rw0 sz v rows rw) : ∃ sz' tag,v = .list sz' tag rows ∧ (rows ≠ [] → sz' = sz) ∧ (rows = [] → sz' = 0 ∧ tag = .full):=by
 rcases h with (⟨rfl,rfl⟩ | ⟨h0,r,rfl,_⟩) | ⟨h0,rfl⟩
 ·exact ⟨0,.full,rfl,fun h => absurd rfl h,fun _ => ⟨rfl,rfl⟩⟩
 ·exact ⟨sz,_,rfl,fun _ => rfl,fun h => absurd h h0⟩
 ·exact ⟨sz,_,rfl,fun _ => rfl,fun h => absurd h h0⟩
structure IsL (sz : Nat) (v : AV) (rows : List (List AV)) : Prop where
 ex : ∃ sz' tag,v = .list sz' tag rows ∧ (rows ≠ [] → sz' = sz) ∧ (rows = [] → sz' = 0 ∧ tag = .full)
theorem Lst.isL {rw0 rw : List Nat} {sz : Nat} {v : AV} {rows : List (List AV)} (h : Lst rw0 sz v rows rw) : IsL sz v rows:=⟨h.tag⟩
theorem IsL.canon {sz : Nat} {v : AV} {rows : List (List AV)} (h : IsL sz v rows) : canon1 v = lst sz rows:=by
 obtain ⟨sz',tag,rfl,h1,h2⟩:=h.ex
 cases rows with
 | nil => obtain ⟨rfl,rfl⟩:=h2 rfl; rfl
 | cons r rs => rw [h1 (by simp)]; cases tag <;> rfl
theorem IsL.below {sz : Nat} {v : AV} {rows : List (List AV)} (h : IsL sz v rows) (n : Nat) : Ai.below n v = true:=by
 obtain ⟨sz',tag,rfl,h1,h2⟩:=h.ex; rfl
theorem IsL.closed {sz : Nat} {v : AV} {rows : List (List AV)} (h : IsL sz v rows) : closed1 v = true:=by
 obtain ⟨sz',tag,rfl,h1,h2⟩:=h.ex; rfl
theorem IsL.nil {sz : Nat} : IsL sz (.list 0 .full []) []:=⟨0,.full,rfl,fun h => absurd rfl h,fun _ => ⟨rfl,rfl⟩⟩
theorem IsL.lit {sz : Nat} {tag : Tag} {rows : List (List AV)} (h : rows ≠ []) : IsL sz (.list sz tag rows) rows:=⟨sz,tag,rfl,fun _ => rfl,fun h' => absurd h' h⟩
theorem IsL.one {sz : Nat} {v : AV} {rows : List (List AV)} (h : IsL sz v rows) : v.cells = [v] ∧ v.okv = true:=by
 obtain ⟨sz',tag,rfl,h1,h2⟩:=h.ex; exact ⟨rfl,rfl⟩
theorem isL_lst {sz : Nat} {rows : List (List AV)} : IsL sz (lst sz rows) rows:=by
 cases rows with
 | nil => exact IsL.nil
 | cons r rs => exact IsL.lit (by simp)
structure LT {α : Type} (sz : Nat) (rows : List α → List (List AV)) where
 v : AV
 xs : List α
 is : IsL sz v (rows xs)
theorem LT.canon {α : Type} {sz : Nat} {rows : List α → List (List AV)} (l : LT sz rows) : canon1 l.v = lst sz (rows l.xs):=l.is.canon
theorem LT.one {α : Type} {sz : Nat} {rows : List α → List (List AV)} (l : LT sz rows) : l.v.cells = [l.v]:=l.is.one.1
theorem LT.okv {α : Type} {sz : Nat} {rows : List α → List (List AV)} (l : LT sz rows) : l.v.okv = true:=l.is.one.2
theorem LT.below {α : Type} {sz : Nat} {rows : List α → List (List AV)} (l : LT sz rows) (n : Nat) : Ai.below n l.v = true:=l.is.below n
theorem cells_agg (cs : List AV) : (AV.agg cs).cells = cs:=rfl
theorem cells_int (k : IntKind) (x : Int) : (AV.int k x).cells = [.int k x]:=rfl
theorem cells_str (x : Str) : (AV.str x).cells = [.str x]:=rfl
theorem cells_bool (x : Bool) : (AV.bool x).cells = [.bool x]:=rfl
theorem cells_list (k : Nat) (t : Tag) (x : List (List AV)) : (AV.list k t x).cells = [.list k t x]:=rfl
theorem cells_ptr (k l : Nat) : (AV.ptr k l).cells = [.ptr k l]:=rfl
theorem len_tyRow (t : Ty) : (tyRow t).length = 6:=(row_ty t).len
theorem len_exRow (t : Xp) : (exRow t).length = 5:=(row_ex t).len
theorem len_smRow (t : Sm) : (smRow t).length = 7:=(row_sm t).len
end Go.Proofs.YtmeakjgbjldkdaaGreat.Ai
namespace Go.Proofs.YtmeakjgbjldkdaaGreat.Ai
open Go
def place : List Cls → Str → Option Nat
 | [],_ => none
 | c :: cs,s => if c.name = s then some 0 else (place cs s).map (· + 1)
def mapOf : Nat → List Cls → List (Str × AV)
 | _,[] => []
 | k,c :: cs => (c.name,.int .i64 (k : Int)) :: mapOf (k + 1) cs
theorem mlook_mapOf (cs : List Cls) (s : Str) : ∀ k,mlook (mapOf k cs) s = (place cs s).map fun i => .int .i64 ((k + i : Nat) : Int):=by
 induction cs with
 | nil => intro k; rfl
 | cons c cs ih =>
  intro k
  simp only [mapOf,mlook,place]
  split
  ·rfl
  ·rw [ih]
   cases place cs s with
   | none => rfl
   | some i => simp only [Option.map_some]; congr 2; omega
theorem mlook_map0 (cs : List Cls) (s : Str) : mlook (mapOf 0 cs) s = (place cs s).map fun i => .int .i64 ((i : Nat) : Int):=by
 rw [mlook_mapOf]; simp
theorem place_get {s : Str} : ∀ {cs : List Cls} {i : Nat},place cs s = some i → ∃ c,cs[i]? = some c ∧ c.name = s:=by
 intro cs
 induction cs with
 | nil => intro i h; simp [place] at h
 | cons c cs ih =>
  intro i h
  simp only [place] at h
  split at h
  ·rename_i hc
   simp only [Option.some.injEq] at h
   subst h
   exact ⟨c,rfl,hc⟩
  ·cases hp : place cs s with
   | none => rw [hp] at h; simp at h
   | some j =>
    rw [hp] at h
    simp only [Option.map_some,Option.some.injEq] at h
    subst h
    obtain ⟨d,h1,h2⟩:=ih hp
    exact ⟨d,by simpa using h1,h2⟩
theorem mput_new {v : AV} {s : Str} : ∀ {es : List (Str × AV)},mlook es s = none → mput es s v = es ++ [(s,v)]:=by
 intro es
 induction es with
 | nil => intro _; rfl
 | cons p es ih =>
  obtain ⟨a,b⟩:=p
  intro h
  simp only [mlook] at h
  split at h
  ·simp at h
  ·rename_i hne
   simp only [mput]
   rw [if_neg hne,ih h]
   rfl
theorem mapOf_append (c : Cls) : ∀ (a : List Cls) (k : Nat),mapOf k (a ++ [c]) = mapOf k a ++ [(c.name,.int .i64 ((k + a.length : Nat) : Int))]:=by
 intro a
 induction a with
 | nil => intro k; simp [mapOf]
 | cons x a ih =>
  intro k
  simp only [List.cons_append,mapOf,ih,List.length_cons]
  rw [show k + 1 + a.length = k + (a.length + 1) by omega]
theorem place_append (c : Cls) (s : Str) : ∀ (a : List Cls),place (a ++ [c]) s = match place a s with | some i => some i | none => if c.name = s then some a.length else none:=by
 intro a
 induction a with
 | nil => simp [place]
 | cons x a ih =>
  simp only [List.cons_append,place,ih]
  split
  ·rfl
  ·cases place a s with
   | some i => rfl
   | none =>
    simp only [Option.map_none,List.length_cons]
    split <;> rfl
def Unlike (cs : List Cls) : Prop:=∀ i c,cs[i]? = some c → place cs c.name = some i
theorem Unlike.nil : Unlike []:=fun i c h => by simp at h
theorem Unlike.snoc {a : List Cls} {c : Cls} (h : Unlike a) (hc : place a c.name = none) : Unlike (a ++ [c]):=by
 intro i d hd
 rw [place_append]
 by_cases hi : i < a.length
 ·rw [List.getElem?_append_left hi] at hd
  rw [h i d hd]
 ·rw [List.getElem?_append_right (by omega)] at hd
  have h0 : i - a.length = 0:=by
   by_cases h0 : i - a.length = 0
   ·exact h0
   ·rw [List.getElem?_eq_none (by simp; omega)] at hd; simp at hd
  rw [h0] at hd
  simp only [List.getElem?_cons_zero,Option.some.injEq] at hd
  subst hd
  rw [hc]
  simp only [if_true]
  congr 1; omega
theorem take_snoc {α : Type} {l : List α} {i : Nat} {x : α} (h : l[i]? = some x) : l.take (i + 1) = l.take i ++ [x]:=by
 rw [List.take_add_one,h]; rfl
def LinkOk (cs : List Cls) (c : Cls) : Prop:=
 (c.super ≠ [] → ∃ k d,place cs c.super = some k ∧ cs[k]? = some d ∧ d.iface = false) ∧ ∀ a ∈ c.above,∃ k d,place cs a = some k ∧ cs[k]? = some d ∧ d.iface = true
def Linked (cs : List Cls) : Prop:=∀ c ∈ cs,LinkOk cs c
def nxtC (cs : List Cls) (c : Cls) : List Nat:=(if c.super = [] then [] else [(place cs c.super).getD 0]) ++ c.above.map fun a => (place cs a).getD 0
def nxt (cs : List Cls) (i : Nat) : List Nat:=match cs[i]? with
 | some c => nxtC cs c
 | none => []
inductive Up (cs : List Cls) (i : Nat) : Nat → Prop
 | one {k : Nat} (h : k ∈ nxt cs i) : Up cs i k
 | more {j k : Nat} (h : Up cs i j) (hk : k ∈ nxt cs j) : Up cs i k
theorem Up.trans {cs : List Cls} {i j k : Nat} (h : Up cs i j) (h' : Up cs j k) : Up cs i k:=by
 induction h' with
 | one h1 => exact .more h h1
 | more _ h2 ih => exact .more ih h2
theorem nxt_lt {cs : List Cls} (h : Linked cs) {i k : Nat} (hk : k ∈ nxt cs i) : k < cs.length:=by
 unfold nxt at hk
 split at hk
 ·rename_i c hc
  obtain ⟨h1,h2⟩:=h c (List.mem_of_getElem? hc)
  rcases List.mem_append.1 hk with hk | hk
  ·split at hk
   ·simp at hk
   ·rename_i hs
    obtain ⟨j,d,hj,hd,-⟩:=h1 hs
    simp only [List.mem_singleton] at hk
    rw [hj] at hk
    simp only [Option.getD_some] at hk
    subst hk
    exact (List.getElem?_eq_some_iff.1 hd).1
  ·obtain ⟨a,ha,rfl⟩:=List.mem_map.1 hk
   obtain ⟨j,d,hj,hd,-⟩:=h2 a ha
   rw [hj]
   exact (List.getElem?_eq_some_iff.1 hd).1
 ·simp at hk
theorem up_lt {cs : List Cls} (h : Linked cs) {i k : Nat} (hk : Up cs i k) : k < cs.length:=by
 cases hk with
 | one h1 => exact nxt_lt h h1
 | more _ h1 => exact nxt_lt h h1
end Go.Proofs.YtmeakjgbjldkdaaGreat.Ai
namespace Go.Proofs.YtmeakjgbjldkdaaGreat.Ai
open Go
def pendF (f : Nat → Nat) : List Bool → Nat → Nat
 | [],_ => 0
 | b :: bs,k => (if b then 0 else f k) + pendF f bs (k + 1)
theorem pendF_set (f : Nat → Nat) : ∀ (bs : List Bool) (j k : Nat),bs[j]? = some false → pendF f (bs.set j true) k + f (k + j) = pendF f bs k:=by
 intro bs
 induction bs with
 | nil => intro j k h; simp at h
 | cons b bs ih =>
  intro j k h
  cases j with
  | zero =>
   simp only [List.getElem?_cons_zero,Option.some.injEq] at h
   subst h
   simp only [List.set_cons_zero,pendF,if_true,Nat.add_zero]
   simp; omega
  | succ j =>
   simp only [List.getElem?_cons_succ] at h
   have:=ih j (k + 1) h
   simp only [List.set_cons_succ,pendF]
   rw [show k + (j + 1) = k + 1 + j by omega]
   omega
theorem pendF_le (f : Nat → Nat) : ∀ (l : List Cls) (k : Nat),(∀ j c,l[j]? = some c → f (k + j) ≤ wCls c) → pendF f (List.replicate l.length false) k ≤ wL wCls l:=by
 intro l
 induction l with
 | nil => intro k _; simp [pendF]
 | cons c l ih =>
  intro k h
  have h0:=h 0 c rfl
  have h1:=ih (k + 1) (fun j d hd => by have:=h (j + 1) d (by simpa using hd); rw [show k + 1 + j = k + (j + 1) by omega]; exact this)
  simp only [List.length_cons,List.replicate_succ,pendF,wL]
  simp only [Nat.add_zero] at h0
  simp; omega
structure Rch (cs : List Cls) (i : Nat) (bs : List Bool) (todo : List Nat) : Prop where
 len : bs.length = cs.length
 sound : ∀ k,bs[k]? = some true → Up cs i k
 soundT : ∀ k ∈ todo,Up cs i k
 first : ∀ k ∈ nxt cs i,bs[k]? = some true ∨ k ∈ todo
 more : ∀ j,bs[j]? = some true → ∀ k ∈ nxt cs j,bs[k]? = some true ∨ k ∈ todo
theorem Rch.start {cs : List Cls} {i : Nat} : Rch cs i (List.replicate cs.length false) (nxt cs i) where
 len:=by simp
 sound:=fun k h => by
  have:=List.mem_of_getElem? h
  simp at this
 soundT:=fun k h => .one h
 first:=fun k h => .inr h
 more:=fun j h => by
  have:=List.mem_of_getElem? h
  simp at this
theorem Rch.pop {cs : List Cls} {i k : Nat} {bs : List Bool} {todo : List Nat} (h : Rch cs i bs (k :: todo)) (hk : bs[k]? = some true) : Rch cs i bs todo where
 len:=h.len
 sound:=h.sound
 soundT:=fun j hj => h.soundT j (List.mem_cons_of_mem _ hj)
 first:=fun j hj => by
  rcases h.first j hj with h1 | h1
  ·exact .inl h1
  ·rcases List.mem_cons.1 h1 with h2 | h2
   ·subst h2; exact .inl hk
   ·exact .inr h2
 more:=fun a ha j hj => by
  rcases h.more a ha j hj with h1 | h1
  ·exact .inl h1
  ·rcases List.mem_cons.1 h1 with h2 | h2
   ·subst h2; exact .inl hk
   ·exact .inr h2
theorem set_true {bs : List Bool} {k j : Nat} (h : bs[j]? = some true) : (bs.set k true)[j]? = some true:=by
 by_cases hj : k = j
 ·subst hj
  rw [List.getElem?_set_self (List.getElem?_eq_some_iff.1 h).1]
 ·rw [List.getElem?_set_ne hj]; exact h
theorem Rch.add {cs : List Cls} {i k : Nat} {bs : List Bool} {todo : List Nat} (h : Rch cs i bs (k :: todo)) (hk : k < bs.length) : Rch cs i (bs.set k true) (todo ++ nxt cs k) where
 len:=by rw [List.length_set]; exact h.len
 sound:=fun j hj => by
  by_cases e : k = j
  ·subst e; exact h.soundT k List.mem_cons_self
  ·rw [List.getElem?_set_ne e] at hj; exact h.sound j hj
 soundT:=fun j hj => by
  rcases List.mem_append.1 hj with h1 | h1
  ·exact h.soundT j (List.mem_cons_of_mem _ h1)
  ·exact .more (h.soundT k List.mem_cons_self) h1
 first:=fun j hj => by
  rcases h.first j hj with h1 | h1
  ·exact .inl (set_true h1)
  ·rcases List.mem_cons.1 h1 with h2 | h2
   ·subst h2; exact .inl (List.getElem?_set_self hk)
   ·exact .inr (List.mem_append_left _ h2)
 more:=fun a ha j hj => by
  by_cases e : k = a
  ·subst e; exact .inr (List.mem_append_right _ hj)
  ·rw [List.getElem?_set_ne e] at ha
   rcases h.more a ha j hj with h1 | h1
   ·exact .inl (set_true h1)
   ·rcases List.mem_cons.1 h1 with h2 | h2
    ·subst h2; exact .inl (List.getElem?_set_self hk)
    ·exact .inr (List.mem_append_left _ h2)
theorem Rch.done {cs : List Cls} {i : Nat} {bs : List Bool} (h : Rch cs i bs []) (k : Nat) : bs[k]? = some true ↔ Up cs i k:=by
 refine ⟨h.sound k,fun hu => ?_⟩
 induction hu with
 | one h1 =>
  rcases h.first _ h1 with h2 | h2
  ·exact h2
  ·cases h2
 | more _ h1 ih =>
  rcases h.more _ ih _ h1 with h2 | h2
  ·exact h2
  ·cases h2
structure Todo (rw0 : List Nat) (v : AV) (rows : List (List AV)) (rw : List Nat) : Prop where
 h : ∃ sz tag,v = .list sz tag rows ∧ (rows ≠ [] → sz = 1) ∧ (tag = .full ∨ ∃ r en,tag = .row r en ∧ sz = 1 ∧ rw0.length ≤ r ∧ rw[r]? = some en)
theorem Todo.of_lst {rw0 rw : List Nat} {v : AV} {rows : List (List AV)} (h : Lst rw0 1 v rows rw) : Todo rw0 v rows rw:=by
 rcases h with (⟨rfl,rfl⟩ | ⟨h0,r,rfl,h1,h2⟩) | ⟨h0,rfl⟩
 ·exact ⟨0,.full,rfl,fun h => absurd rfl h,.inl rfl⟩
 ·exact ⟨1,_,rfl,fun _ => rfl,.inr ⟨r,_,rfl,rfl,h1,h2⟩⟩
 ·exact ⟨1,.full,rfl,fun _ => rfl,.inl rfl⟩
theorem Todo.ext {rw0 rw rw' : List Nat} {v : AV} {rows : List (List AV)} (h : Todo rw0 v rows rw) (hx : Rx rw rw') : Todo rw0 v rows rw':=by
 obtain ⟨sz,tag,h1,h2,h3⟩:=h
 refine ⟨sz,tag,h1,h2,h3.imp id ?_⟩
 rintro ⟨r,en,e1,e2,e3,e4⟩
 exact ⟨r,en,e1,e2,e3,hx.get e4⟩
theorem Todo.push {rw0 rw : List Nat} {v w : AV} {rows rowsb : List (List AV)} {H : List Blk} (h : Todo rw0 v rows rw) (hx : Rx rw0 rw) (hw : IsL 1 w rowsb) (hl : (rows.length + rowsb.length) * 8 ≤ maxRow) :
  ∃ v' rw',aappend 1 8 v w ⟨H,rw⟩ = some (v',⟨H,rw'⟩) ∧ Todo rw0 v' (rows ++ rowsb) rw' ∧ Rx rw0 rw':=by
 obtain ⟨sz,tag,rfl,h2,h3⟩:=h
 obtain ⟨szb,tagb,rfl,h5,h6⟩:=hw
 by_cases hb : rowsb = []
 ·subst hb
  refine ⟨.list sz tag rows,rw,?_,?_,hx⟩
  ·simp [aappend]
  ·rw [List.append_nil]; exact ⟨sz,tag,rfl,h2,h3⟩
 ·have e5:=h5 hb
  subst e5
  have hl1 : (rows.length + rowsb.length) * 8 ≤ maxRow ∧ rows.length + rowsb.length ≤ maxRow:=⟨hl,by omega⟩
  have hc : rows = [] ∨ sz = 1:=by
   by_cases h0 : rows = []
   ·exact .inl h0
   ·exact .inr (h2 h0)
  rcases h3 with rfl | ⟨r,en,rfl,rfl,h8,h9⟩
  ·refine ⟨.list 1 (.row rw.length (rows.length + rowsb.length)) (rows ++ rowsb),rw ++ [rows.length + rowsb.length],?_,?_,hx.push _⟩
   ·simp only [aappend]
    rw [if_neg hb,if_pos ⟨trivial,hc,hl1.1,hl1.2,by omega⟩]
   ·exact ⟨1,_,rfl,fun _ => rfl,.inr ⟨_,_,rfl,rfl,hx.le,by simp⟩⟩
  ·refine ⟨.list 1 (.row r (en + rowsb.length)) (rows ++ rowsb),rw.set r (en + rowsb.length),?_,?_,hx.set h8 _⟩
   ·simp only [aappend]
    rw [if_neg hb,if_pos ⟨trivial,.inr trivial,hl1.1,hl1.2,by omega⟩,if_pos ⟨trivial,h9⟩]
   ·have hr:=(List.getElem?_eq_some_iff.1 h9).1
    exact ⟨1,_,rfl,fun _ => rfl,.inr ⟨_,_,rfl,rfl,h8,List.getElem?_set_self hr⟩⟩
theorem Todo.tail {rw0 rw : List Nat} {v : AV} {r : List AV} {rows : List (List AV)} (h : Todo rw0 v (r :: rows) rw) : ∃ tag,v = .list 1 tag (r :: rows) ∧ Todo rw0 (.list 1 tag rows) rows rw:=by
 obtain ⟨sz,tag,rfl,h2,h3⟩:=h
 have:=h2 (by simp)
 subst this
 exact ⟨tag,rfl,1,tag,rfl,fun _ => rfl,h3⟩
theorem slice_tail {tag : Tag} {r : List AV} {rows : List (List AV)} : aslice 1 (.list 1 tag (r :: rows)) (some 1) none = some (.list 1 tag rows):=by
 simp [aslice]
 omega
end Go.Proofs.YtmeakjgbjldkdaaGreat.Ai
