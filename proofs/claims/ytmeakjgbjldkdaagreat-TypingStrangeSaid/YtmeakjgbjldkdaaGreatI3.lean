/- A part of what is proved: Tr, TrP, L1, Lex, Lex2, Lex3, Lex4, Lex5, Ast, Lists, Stp2, Stp3, Rdr1, Rdr2, Nm1, L2, R1, R2, R3, R4, R5, R6, R7, R8, R9, R10, L3, R11, R12, R13. No condition. -/
import Derived.Test.YtmeakjgbjldkdaaGreatI2
import Derived.Test.YtmeakjgbjldkdaaGreatProg
import Derived.KernelRfl
set_option maxRecDepth 100000
set_option maxHeartbeats 16000000
noncomputable section
namespace Go.Proofs.YtmeakjgbjldkdaaGreat
abbrev DG:=@List.getElem_mem
abbrev AI:=@List.take_length
abbrev CH:=@List.not_mem_nil
abbrev Dv:=@List.prefix_append
abbrev Bi:=@List.getElem?_take_of_lt
abbrev Dw:=@List.getElem?_drop
abbrev Df:=@Bool.true_or
abbrev Cw:=@List.set_cons_zero
abbrev Cy:=@List.set_cons_succ
abbrev DE:=@Nat.le_add_right
abbrev AL:=@List.take_zero
abbrev DT:=@Int.not_lt
abbrev DU:=@Int.not_le
abbrev Dc:=@Decidable.not_not
abbrev CB:=@Int.eq_ofNat_of_zero_le
abbrev Ax:=@List.getElem?_map
abbrev A5:=@List.getElem?_eq_none
abbrev BA:=@List.getElem?_cons_succ
abbrev AU:=@List.drop_eq_nil_of_le
end Go.Proofs.YtmeakjgbjldkdaaGreat
namespace Go.Proofs.YtmeakjgbjldkdaaGreat.Tr
open Go Go.Proofs.YtmeakjgbjldkdaaGreat.Ai
abbrev Jm6:=Go.Proofs.YtmeakjgbjldkdaaGreat.Ai.Item
section
variable (P:Program)
inductive Kd where
 | int (k:IntKind) |str |bool |ptr |slice (e:Nat) |map (e:Nat) |two |other
structure TI where
 size:Nat
 byt:Nat
 zs:List AV
 z1:AV
 row:Option Nat
 kd:Kd
 fields:List (Nat×Nat×Option Nat)
def avs(f:Value->Option AV):List Value->Option (List AV)
 | []=>some []
 | v::vs=>match f v,avs f vs with
  | some a,some l=>some (a::l)
  | _,_=>none
def av:Nat->Value->Option AV
 | 0,_=>none
 | _+1,.bool b=>some (.bool b)
 | _+1,.int k n=>some (.int k n)
 | _+1,.string s=>some (.str s.data.toList)
 | _+1,.pointer none=>some .nilp
 | _+1,.slice none 0 0=>some (.list 0 .full [])
 | _+1,.map none=>some .nilm
 | _+1,.nilFunc=>some .nilf
 | _+1,.nilIface=>some .nili
 | _+1,.func (.func g) a b=>if a.size == 0 && b.size == 0 then some (.func g [] [])else none
 | n+1,.agg cs=>(avs (av n) cs.toList).map .agg
 | _+1,.tuple vs=>if vs.size == 0 then some .undef else none
 | _,_=>none
def fld(f:Field):Nat×Nat×Option Nat:=match P.info? f.type,P.underlying f.type with
 | some i,some d=>(f.offset,i.size,if d.isRow then some i.size else none)
 | _,_=>(f.offset,0,none)
def JSU:List Field->List (Nat×Nat×Option Nat)
 | []=>[]
 | f::fs=>fld P f::JSU fs
def ti(T:TypeId):Option TI:=match P.info? T,P.underlying T with
 | some i,some d=>match i.zero with
  | some z=>match avs (av 3) z.cells.toList,av 3 z with
   | some l,some z1=>some ⟨i.size,i.bytes,l,z1,if d.isRow then some i.size else none,match d with
     | .int k=>.int k
     | .string=>.str
     | .bool=>.bool
     | .pointer _=>.ptr
     | .slice e=>.slice e
     | .map _ e=>.map e
     | .struct _=>if JoO P T then .two else .other
     | _=>.other,match d with
     | .struct fs=>JSU P fs.toList
     | _=>[]⟩
   | _,_=>none
  | none=>none
 | _,_=>none
def tis:List Nat->List (Nat×TI)
 | []=>[]
 | T::l=>match ti P T with
  | some x=>(T,x)::tis l
  | none=>tis l
end
section
variable (P:List (Nat×TI))
def Jdy:List (Nat×TI)->Nat->Option TI
 | [],_=>none
 |(a,x)::l,T=>bif Nat.beq a T then some x else Jdy l T
def op:Operand->Option Opd
 | .tmp t=>some (.tmp t)
 | .const v=>(av 3 v).map .const
 | .func g=>some (.const (.func g [] []))
 | .global _=>none
def op?:Option Operand->Option (Option Opd)
 | none=>some none
 | some x=>(op x).map some
def JtC:List Operand->Option (List Opd)
 | []=>some []
 | x::xs=>match op x,JtC xs with
  | some a,some l=>some (a::l)
  | _,_=>none
def K5(T:TypeId):Option TI:=match Jdy P T with
 | some x=>match x.kd with
  | .slice e=>Jdy P e
  | _=>none
 | none=>none
def JgF(fs:List (Nat×Nat×Option Nat)):List (Nat×Operand)->Option (List (Nat×Nat×Opd))
 | []=>some []
 |(i,x)::ps=>match fs[i]?,op x,JgF fs ps with
  | some f,some a,some l=>some ((f.1,f.2.1,a)::l)
  | _,_,_=>none
def opn(j:Nat):Op->Option (IOp×Option (List AV))
 | .move x |.assign x=>(op x).map λa=>(.q (.mov a),none)
 | .pick c a b=>do return (.q (.pick (<- op c) (<- op a) (<- op b)),none)
 | .alloc T=>(Jdy P T).map λz=>(.q (.alloc j z.zs),some z.zs)
 | .box _ x=>(op x).map λa=>(.l (.box a) [],none)
 | .build T ps=>do
  let x <- Jdy P T
  return (.q (.build x.zs (<- JgF x.fields ps.toList)),none)
 | .buildSlice T _ ps=>do return (.q (.mkList (<- K5 P T).size (<- JtC (ps.toList.map (·.2)))),none)
 | .load T a=>do return (.q (.load (<- Jdy P T).row (<- op a)),none)
 | .store T a v=>do return (.l (.store (<- Jdy P T).size (<- op a) (<- op v)) [],none)
 | .nilCheck x=>(op x).map λa=>(.q (.nilCheck a),none)
 | .binOp o T x y _=>do
  let a <- op x;let b <- op y;match (<- Jdy P T).kd with
  | .int _ |.str=>return (.q (.bin .num o a b),none)
  | .bool=>return (.q (.bin .bool o a b),none)
  | .ptr=>return (.q (.bin .ptr o a b),none)
  | .two=>return (.q (.bin .two o a b),none)
  | _=>none
 | .unOp .not _ x=>(op x).map λa=>(.q (.unot a),none)
 | .unOp .neg _ x=>(op x).map λa=>(.q (.uneg a),none)
 | .convert _ d x=>do match (<- Jdy P d).kd with
  | .int k=>(op x).map λa=>(.q (.conv k a),none)
  | .str=>(op x).map λa=>(.q (.convS a),none)
  | _=>none
 | .makeInterface T x=>(op x).map λa=>(.q (.mkIface T a),none)
 | .makeFunc (.func f) a b=>do return (.q (.mkFunc f (<- JtC a.toList) (<- JtC b.toList)),none)
 | .makeMap _ none=>some (.l .mkMap [],none)
 | .makeSlice T l c=>do
  let e <- K5 P T
  return (.l (.mkSlice e.size e.byt e.zs (<- op l) (<- op c)) [],none)
 | .slice T x lo hi none=>do
  let a <- op x;let l <- op? lo;let h <- op? hi;match (<- Jdy P T).kd with
  | .str=>return (.q (.sliceS a l h),none)
  | _=>return (.q (.slice (<- K5 P T).size a l h),none)
 | .fieldAddr T x f=>do
  let t <- Jdy P T;let d <- t.fields[f]?
  return (.q (.fieldAddr d.1 (<- op x)),none)
 | .field T x f=>do
  let t <- Jdy P T;let d <- t.fields[f]?
  return (.q (.field d.1 d.2.2 (<- op x)),none)
 | .indexAddr T x i=>do return (.q (.indexAddr (<- K5 P T).size (<- op x) (<- op i)),none)
 | .index _ x i=>do return (.q (.index (<- op x) (<- op i)),none)
 | .lookup T m k ok=>do match (<- Jdy P T).kd with
  | .map e=>return (.q (.lookup (<- Jdy P e).z1 ok (<- op m) (<- op k)),none)
  | _=>none
 | .mapUpdate _ m k v=>do return (.l (.mapUpd (<- op m) (<- op k) (<- op v)) [],none)
 | .typeAssert x _ t true=>do return (.q (.tassert t (<- Jdy P t).z1 (<- op x)),none)
 | .extract x i=>(op x).map λa=>(.q (.extract a i),none)
 | .panic x=>(op x).map λa=>(.l (.panic a) [],none)
 | .call c=>match c.callee with
  | .builtin .len=>match c.args.toList,c.argTypes.toList with
   | [x],[t]=>do match (<- Jdy P t).kd with
    | .str=>(op x).map λa=>(.q (.lenS a),none)
    | .slice _=>(op x).map λa=>(.q (.len a),none)
    | .map _=>(op x).map λa=>(.q (.lenM a),none)
    | _=>none
   | _,_=>none
  | .builtin .append=>match c.args.toList,c.argTypes.toList with
   | [x,y],[t,_]=>do
    let e <- K5 P t
    return (.l (.append e.size e.byt (<- op x) (<- op y)) [],none)
   | _,_=>none
  | .builtin .min=>match c.args.toList with
   | [x,y]=>do return (.q (.min2 (<- op x) (<- op y)),none)
   | _=>none
  | .value g=>do return (.l (.call (<- op g) (<- JtC c.args.toList)) [],none)
  | _=>none
 | _=>none
def its(ops:Array Oper):Nat->List Oper->Nat->Option (List Jm6×List (List AV))
 | _,[],_=>some ([],[])
 | i,o::os,j=>match opn P j o.op with
  | none=>none
  | some (x,al)=>
   let g:=match o.guard with
    | none=>some none
    | some (k,b)=>match (ops[k]?).bind (·.dst)with
     | some d=>some (some (d,b))
     | none=>none
   match g,its ops (i+1) os (j+al.toList.length)with
   | some g,some (l,als)=>some (⟨i,o.dst,g,x⟩::l,al.toList++als)
   | _,_=>none
def isQ:IOp->Bool
 | .q _=>true
 | _=>false
def JEI:IOp->Bool
 | .q o=>o.free
 | _=>false
def JtD(tab:List Nat)(skip:List Nat):Nat->List Jm6->List Jm6->Option (List Jm6)
 | 0,_,_=>none
 | _+1,[],_=>some []
 | n+1,todo,done=>
  let rdy:=todo.filter λit=>todo.all λk=>!((tab.getD it.ix 0).testBit k.ix);match rdy.find? λit=>isQ it.op with
  | some it=>(JtD tab skip n (todo.filter λk=>k.ix != it.ix) (it::done)).map (it::·)
  | none=>match rdy with
   | []=>none
   | it::_=>
    let re:=(done.reverse.filter λk=>!((tab.getD it.ix 0).testBit k.ix) && isQ k.op && !JEI k.op).map (·.ix);let it':Jm6:=match it.op with
     | .l o _=>{it with op:=.l o re}
     | _=>it
    (JtD tab skip n (todo.filter λk=>k.ix != it.ix) (it'::done)).map (it'::·)
def reg(ops:Array Oper)(draw:Bool)(kp:List Nat):Option IC:=
 match its P ops 0 ops.toList 0 with
 | none=>none
 | some (l,als)=>if draw then(JtD (JoW ops) [] (l.length+1) l []).map λl=>.region als l kp else some (.region als l kp)
end
def Jo2:Code->List (Array Oper×Bool)
 | .region _ ops d=>[(ops,d)]
 | .seq a b=>Jo2 a++Jo2 b
 | .cond _ a b=>Jo2 a++Jo2 b
 | .block _ b=>Jo2 b
 | .loop b=>Jo2 b
 | _=>[]
def rgs(P:List (Nat×TI)):List (Array Oper×Bool)->List (List Nat)->List IC
 |(o,d)::l,kp::ks=>(reg P o d kp).getD .stuck::rgs P l ks
 | _,_=>[]
def fn(P:List (Nat×TI))(g:Func)(k:Nat)(ks:List (List Nat)):List IC:=rgs P ((Jo2 (g.body.getD .skip)).drop k) ks
def pk:List IC->Nat->IC
 | [],_=>.stuck
 | c::_,0=>c
 | _::l,n+1=>pk l n
end Go.Proofs.YtmeakjgbjldkdaaGreat.Tr
namespace Go.Proofs.YtmeakjgbjldkdaaGreat.Tr
open Go Go.Proofs.YtmeakjgbjldkdaaGreat.Ai
set_option maxRecDepth 100000
set_option maxHeartbeats 16000000
def t0:{l:List (Nat×TI) // tis Tryz.prog [3,9,35,23,74,124,29,39,58,31,169,4]=l}:=⟨_,AO⟩
def t1:{l:List (Nat×TI) // tis Tryz.prog [44,42,104,37,33,51,61,109,41,46,30,164]=l}:=⟨_,AO⟩
def t2:{l:List (Nat×TI) // tis Tryz.prog [209,49,80,110,95,26,85,24,5,32,92,65]=l}:=⟨_,AO⟩
def t3:{l:List (Nat×TI) // tis Tryz.prog [70,67,76,114,181,180,186,226,234]=l}:=⟨_,AO⟩
def tt:{l:List (Nat×TI) // t0.1++t1.1++t2.1++t3.1=l}:=⟨_,AO⟩
abbrev TT:List (Nat×TI):=tt.1
end Go.Proofs.YtmeakjgbjldkdaaGreat.Tr
namespace Go.Proofs.YtmeakjgbjldkdaaGreat.Ai
open Go
open Tr(pk)
set_option maxRecDepth 100000
set_option maxHeartbeats 16000000
def Jaf:{l:List IC // Tr.fn Tr.TT Tryz.f89 0 [[0],[0,12],[2,3,4],[0,5],[0,5,6],[0,5,6,18],[0,5,6,7],[0,5,6,7,8],[0,5,6,7,8,31],[0,5,6,9],[0,5,6,9,38],[2,3,4],[0,5,6,8],[0,5,6,7,8],[0,5,6,7,8,43],[2,3,4],[0,5,6,7,8,63],[2,3,4],[0,5,6,7,8,79],[2,3,4],[0,5,8],[0,5,6],[0,5,6],[2,3,4]]=l}:=⟨_,AO⟩
def JSV:IC:=pk Jaf.1 0
def JSW:IC:=pk Jaf.1 1
def JSX:IC:=pk Jaf.1 2
def JSY:IC:=pk Jaf.1 3
def JSZ:IC:=pk Jaf.1 4
def JS0:IC:=pk Jaf.1 5
def JS1:IC:=pk Jaf.1 6
def JS2:IC:=pk Jaf.1 7
def JS3:IC:=pk Jaf.1 8
def JS4:IC:=pk Jaf.1 9
def JEJ:IC:=pk Jaf.1 10
def JEK:IC:=pk Jaf.1 11
def JEL:IC:=pk Jaf.1 12
def JEM:IC:=pk Jaf.1 13
def JEN:IC:=pk Jaf.1 14
def JEO:IC:=pk Jaf.1 15
def JEP:IC:=pk Jaf.1 16
def JEQ:IC:=pk Jaf.1 17
def JER:IC:=pk Jaf.1 18
def JES:IC:=pk Jaf.1 19
def JET:IC:=pk Jaf.1 20
def JEU:IC:=pk Jaf.1 21
def JEV:IC:=pk Jaf.1 22
def JEW:IC:=pk Jaf.1 23
def i89:IFn:=⟨1,(.seq JSV (.seq (.seq JSW (.cond (.tmp 12) (.seq JSX .ret) (.skip))) (.seq JSY (.seq (.seq JSZ (.block 0 (.loop [0,5,6] (.seq (.seq JS0 (.cond (.tmp 18) (.skip) (.exit 0))) (.seq (.block 1 (.seq JS1 (.seq JS2 (.seq (.block 2 (.seq JS3 (.cond (.tmp 31) (.seq JS4 (.seq (.seq JEJ (.cond (.tmp 38) (.seq JEK .ret) (.skip))) (.seq JEL JEM))) (.seq JEN (.cond (.tmp 43) (.seq JEO .ret) (.seq JEP (.cond (.tmp 63) (.seq JEQ .ret) (.seq JER (.cond (.tmp 79) (.seq JES .ret) (.skip)))))))))) (.seq JET JEU))))) JEV))))) (.seq JEW .ret))))),[.tmp 2,.tmp 3,.tmp 4]⟩
theorem Ae{Q:Prop}(h:Q:=by kernel_rfl):Q:=h
theorem c89:JK Tryz.prog Tryz.f89 i89=true:=Ae
def JS5:{l:List IC // Tr.fn Tr.TT Tryz.f90 0 [[0,1,2],[6]]=l}:=⟨_,AO⟩
def JS6:IC:=pk JS5.1 0
def JS7:IC:=pk JS5.1 1
def i90:IFn:=⟨3,(.seq JS6 (.seq JS7 .ret)),[.tmp 6]⟩
theorem c90:JK Tryz.prog Tryz.f90 i90=true:=Ae
def JS8:{l:List IC // Tr.fn Tr.TT Tryz.f93 0 [[0,7],[]]=l}:=⟨_,AO⟩
def JS9:IC:=pk JS8.1 0
def JTa:IC:=pk JS8.1 1
def i93:IFn:=⟨2,(.seq JS9 (.cond (.tmp 7) JTa (.skip))),[]⟩
theorem c93:JK Tryz.prog Tryz.f93 i93=true:=Ae
def JEX:{l:List IC // Tr.fn Tr.TT Tryz.f95 0 [[0,1,8],[0],[]]=l}:=⟨_,AO⟩
def JTb:IC:=pk JEX.1 0
def JTc:IC:=pk JEX.1 1
def JTd:IC:=pk JEX.1 2
def i95:IFn:=⟨2,(.seq JTb (.cond (.tmp 8) (.seq JTc JTd) (.skip))),[]⟩
theorem c95:JK Tryz.prog Tryz.f95 i95=true:=Ae
def JeT:{l:List IC // Tr.fn Tr.TT Tryz.f130 0 [[0,1],[0,1,8],[0,1,13],[0,1],[0,1,28],[4],[0,1,39],[0,1],[4]]=l}:=⟨_,AO⟩
def JEY:IC:=pk JeT.1 0
def JEZ:IC:=pk JeT.1 1
def JE0:IC:=pk JeT.1 2
def JE1:IC:=pk JeT.1 3
def JE2:IC:=pk JeT.1 4
def JE3:IC:=pk JeT.1 5
def JE4:IC:=pk JeT.1 6
def JE5:IC:=pk JeT.1 7
def JE6:IC:=pk JeT.1 8
def JwW:IFn:=⟨2,(.seq JEY (.seq (.block 0 (.loop [0,1] (.seq (.seq JEZ (.cond (.tmp 8) (.skip) (.exit 0))) (.block 1 (.seq (.seq JE0 (.cond (.tmp 13) (.seq JE1 (.exit 1)) (.skip))) (.seq (.seq JE2 (.cond (.tmp 28) (.seq JE3 .ret) (.skip))) (.block 2 (.loop [0,1] (.seq (.seq JE4 (.cond (.tmp 39) (.skip) (.exit 2))) (.block 3 JE5)))))))))) (.seq JE6 .ret))),[.tmp 4]⟩
theorem JTe:JK Tryz.prog Tryz.f130 JwW=true:=Ae
def JgG:{l:List IC // Tr.fn Tr.TT Tryz.f131 0 [[0],[0,3],[2],[0,22],[2],[29],[2],[2]]=l}:=⟨_,AO⟩
def JE7:IC:=pk JgG.1 0
def JE8:IC:=pk JgG.1 1
def JE9:IC:=pk JgG.1 2
def JFa:IC:=pk JgG.1 3
def JFb:IC:=pk JgG.1 4
def JFc:IC:=pk JgG.1 5
def JFd:IC:=pk JgG.1 6
def JFe:IC:=pk JgG.1 7
def JwX:IFn:=⟨1,(.seq JE7 (.seq (.block 0 (.seq JE8 (.cond (.tmp 3) (.seq JE9 .ret) (.seq JFa (.cond (.tmp 22) (.seq JFb .ret) (.seq JFc (.cond (.tmp 29) (.seq JFd .ret) (.skip)))))))) (.seq JFe .ret))),[.tmp 2]⟩
theorem JTf:JK Tryz.prog Tryz.f131 JwX=true:=Ae
def Jqv:{l:List IC // Tr.fn Tr.TT Tryz.f132 0 [[0,1,2],[0,1,2,27],[0,1,2],[6]]=l}:=⟨_,AO⟩
def JFf:IC:=pk Jqv.1 0
def JFg:IC:=pk Jqv.1 1
def JFh:IC:=pk Jqv.1 2
def JFi:IC:=pk Jqv.1 3
def JwY:IFn:=⟨3,(.seq JFf (.seq (.block 0 (.loop [0,1,2] (.seq (.seq JFg (.cond (.tmp 27) (.skip) (.exit 0))) (.block 1 JFh)))) (.seq JFi .ret))),[.tmp 6]⟩
theorem JTg:JK Tryz.prog Tryz.f132 JwY=true:=Ae
def JgH:{l:List IC // Tr.fn Tr.TT Tryz.f133 0 [[0,1],[0,1,5],[0,1,5,6],[0,1,6,22],[4],[29],[4],[4]]=l}:=⟨_,AO⟩
def JFj:IC:=pk JgH.1 0
def JFk:IC:=pk JgH.1 1
def JFl:IC:=pk JgH.1 2
def JFm:IC:=pk JgH.1 3
def JFn:IC:=pk JgH.1 4
def JFo:IC:=pk JgH.1 5
def JFp:IC:=pk JgH.1 6
def JFq:IC:=pk JgH.1 7
def JwZ:IFn:=⟨2,(.seq JFj (.seq JFk (.seq JFl (.seq (.seq JFm (.cond (.tmp 22) (.seq JFn .ret) (.skip))) (.seq (.seq JFo (.cond (.tmp 29) (.seq JFp .ret) (.skip))) (.seq JFq .ret)))))),[.tmp 4]⟩
theorem JTh:JK Tryz.prog Tryz.f133 JwZ=true:=Ae
def Jqw:{l:List IC // Tr.fn Tr.TT Tryz.f134 0 [[0],[0,12],[2],[2]]=l}:=⟨_,AO⟩
def JFr:IC:=pk Jqw.1 0
def JFs:IC:=pk Jqw.1 1
def JFt:IC:=pk Jqw.1 2
def JFu:IC:=pk Jqw.1 3
def Jw0:IFn:=⟨1,(.seq JFr (.seq (.seq JFs (.cond (.tmp 12) (.seq JFt .ret) (.skip))) (.seq JFu .ret))),[.tmp 2]⟩
theorem JTi:JK Tryz.prog Tryz.f134 Jw0=true:=Ae
def Jkl:{l:List IC // Tr.fn Tr.TT Tryz.f135 0 [[0],[0,34],[],[2],[0],[2]]=l}:=⟨_,AO⟩
def JFv:IC:=pk Jkl.1 0
def JFw:IC:=pk Jkl.1 1
def JFx:IC:=pk Jkl.1 2
def JFy:IC:=pk Jkl.1 3
def JFz:IC:=pk Jkl.1 4
def JFA:IC:=pk Jkl.1 5
def Jw1:IFn:=⟨1,(.seq JFv (.seq (.seq JFw (.cond (.tmp 34) (.seq JFx (.seq JFy .ret)) (.skip))) (.seq JFz (.seq JFA .ret)))),[.tmp 2]⟩
theorem JTj:JK Tryz.prog Tryz.f135 Jw1=true:=Ae
def Jm7:{l:List IC // Tr.fn Tr.TT Tryz.f136 0 [[0,1],[0,8],[4],[],[4]]=l}:=⟨_,AO⟩
def JFB:IC:=pk Jm7.1 0
def JFC:IC:=pk Jm7.1 1
def JFD:IC:=pk Jm7.1 2
def JFE:IC:=pk Jm7.1 3
def JFF:IC:=pk Jm7.1 4
def Jw2:IFn:=⟨2,(.seq JFB (.seq (.seq JFC (.cond (.tmp 8) (.seq JFD .ret) (.skip))) (.seq JFE (.seq JFF .ret)))),[.tmp 4]⟩
theorem JTk:JK Tryz.prog Tryz.f136 Jw2=true:=Ae
def Jm8:{l:List IC // Tr.fn Tr.TT Tryz.f137 0 [[0],[0,3],[0,3,8],[0,3],[2]]=l}:=⟨_,AO⟩
def JFG:IC:=pk Jm8.1 0
def JFH:IC:=pk Jm8.1 1
def JFI:IC:=pk Jm8.1 2
def JFJ:IC:=pk Jm8.1 3
def JFK:IC:=pk Jm8.1 4
def Jw3:IFn:=⟨1,(.seq JFG (.seq JFH (.seq (.block 0 (.loop [0,3] (.seq (.seq JFI (.cond (.tmp 8) (.skip) (.exit 0))) (.block 1 JFJ)))) (.seq JFK .ret)))),[.tmp 2]⟩
theorem JTl:JK Tryz.prog Tryz.f137 Jw3=true:=Ae
def Jm9:{l:List IC // Tr.fn Tr.TT Tryz.f140 0 [[0],[0,14],[0],[0],[2]]=l}:=⟨_,AO⟩
def JFL:IC:=pk Jm9.1 0
def JFM:IC:=pk Jm9.1 1
def JFN:IC:=pk Jm9.1 2
def JFO:IC:=pk Jm9.1 3
def JFP:IC:=pk Jm9.1 4
def Jw4:IFn:=⟨1,(.seq JFL (.seq (.seq JFM (.cond (.tmp 14) JFN (.skip))) (.seq JFO (.seq JFP .ret)))),[.tmp 2]⟩
theorem JTm:JK Tryz.prog Tryz.f140 Jw4=true:=Ae
def JiA:{l:List IC // Tr.fn Tr.TT Tryz.f190 0 [[0,1],[0,1,5],[0,1,5,9],[0,1,5,17],[4],[0,1,5],[4]]=l}:=⟨_,AO⟩
def JFQ:IC:=pk JiA.1 0
def JFR:IC:=pk JiA.1 1
def JFS:IC:=pk JiA.1 2
def JFT:IC:=pk JiA.1 3
def JFU:IC:=pk JiA.1 4
def JFV:IC:=pk JiA.1 5
def JFW:IC:=pk JiA.1 6
def Jw5:IFn:=⟨2,(.seq JFQ (.seq (.seq JFR (.block 0 (.loop [0,1,5] (.seq (.seq JFS (.cond (.tmp 9) (.skip) (.exit 0))) (.seq (.block 1 (.seq JFT (.cond (.tmp 17) (.seq JFU .ret) (.skip)))) JFV))))) (.seq JFW .ret))),[.tmp 4]⟩
theorem JTn:JK Tryz.prog Tryz.f190 Jw5=true:=Ae
def JeU:{l:List IC // Tr.fn Tr.TT Tryz.f191 0 [[0],[0,21],[2],[0,3],[0,3,25],[0,3,39],[2],[0,3],[2]]=l}:=⟨_,AO⟩
def JFX:IC:=pk JeU.1 0
def JFY:IC:=pk JeU.1 1
def JFZ:IC:=pk JeU.1 2
def JF0:IC:=pk JeU.1 3
def JF1:IC:=pk JeU.1 4
def JF2:IC:=pk JeU.1 5
def JF3:IC:=pk JeU.1 6
def JF4:IC:=pk JeU.1 7
def JF5:IC:=pk JeU.1 8
def Jw6:IFn:=⟨1,(.seq JFX (.seq (.seq JFY (.cond (.tmp 21) (.seq JFZ .ret) (.skip))) (.seq (.seq JF0 (.block 0 (.loop [0,3] (.seq (.seq JF1 (.cond (.tmp 25) (.skip) (.exit 0))) (.seq (.block 1 (.seq JF2 (.cond (.tmp 39) (.seq JF3 .ret) (.skip)))) JF4))))) (.seq JF5 .ret)))),[.tmp 2]⟩
theorem JTo:JK Tryz.prog Tryz.f191 Jw6=true:=Ae
def JDM:{l:List IC // Tr.fn Tr.TT Tryz.f226 0 [[0],[2]]=l}:=⟨_,AO⟩
def JF6:IC:=pk JDM.1 0
def JF7:IC:=pk JDM.1 1
def Jw7:IFn:=⟨1,(.seq JF6 (.seq JF7 .ret)),[.tmp 2]⟩
theorem JTp:JK Tryz.prog Tryz.f226 Jw7=true:=Ae
def JDN:{l:List IC // Tr.fn Tr.TT Tryz.f243 0 [[],[0]]=l}:=⟨_,AO⟩
def JF8:IC:=pk JDN.1 0
def JF9:IC:=pk JDN.1 1
def Jw8:IFn:=⟨0,(.seq JF8 (.seq JF9 .ret)),[.tmp 0]⟩
theorem JTq:JK Tryz.prog Tryz.f243 Jw8=true:=Ae
variable {pr:Jz} {F:Nat->Option IFn}
def QG(pr:Jz)(F:Nat->Option IFn)(f:Nat)(fn:IFn):Prop:=pr f=none/\F f=some fn
structure LibL(pr:Jz)(F:Nat->Option IFn):Prop where
 hm:Yy pr
 f89:QG pr F 89 i89
 f130:QG pr F 130 JwW
 f131:QG pr F 131 JwX
 f132:QG pr F 132 JwY
 f133:QG pr F 133 JwZ
 f190:QG pr F 190 Jw5
 f191:QG pr F 191 Jw6
 f226:QG pr F 226 Jw7
 f243:QG pr F 243 Jw8
theorem YY(hm:Yy pr){f:Nat}{vs:List AV}{S:St}{α:Type}{r:α->Res}{p:α->Prop}(h:Wp pr F f vs S λr' S'=>∃ a,p a/\r'=r a/\S'=S):∃ a,p a/\Det pr F f vs S (r a) S:=by obtain⟨r',S',hd,a,hp,rfl,rfl⟩:=h.det hm;exact⟨a,hp,hd⟩
theorem JlB(L:LibL pr F){S:St}{tag:Tag}{rows:List (List AV)}{x:Jk}(hl:rows.length<=1000)(hrows:∀ r∈rows,∃ y,r=[.str y]) :
  ∃ b,True/\Det pr F 190 [.list 1 tag rows,.str x] S (.ret (.bool b)) S:=by
 have hm:=L.hm;refine YY hm ?_;obtain⟨H,rw⟩:=S;refine Jt hm L.f190.1 L.f190.2 rfl ?_;refine' VO;refine JB hm (λm e S'=>S'=⟨H,rw⟩/\∃ i:Nat,m+i=rows.length/\e=[(0,.list 1 tag rows),(1,.str x),(5,.int .i64 i)]) ?_ (m:=rows.length) ⟨rfl,0,rfl,rfl⟩;rintro m e S' ⟨rfl,i,hi,rfl⟩;by_cases h:i<rows.length
 ·obtain⟨y,hy⟩:=hrows rows[i] (DG h);have hr:rows[i]? = some [.str y]:=by rw[Ab h,hy]
  by_cases hx:y=x
  ·refine' VO;exact Js rfl rfl (AI) ⟨_,trivial,rfl,rfl⟩
  ·refine' VO;exact⟨m-1,O,rfl,i+1,O,rfl⟩
 ·refine' VO;exact Js rfl rfl (AI) ⟨_,trivial,rfl,rfl⟩
def K8(c:Nat):Int:=
 if(97<=c/\c<=122)\/(65<=c/\c<=90)\/c=95 then 1 else if 48<=c/\c<=57 then 2 else if c=32\/c=9\/c=10\/c=13 then 3 else 0
theorem JGa(c:Nat)(h:(97<=c/\c<=122)\/(65<=c/\c<=90)\/c=95):1=K8 c:=by unfold K8;rw[if_pos h]
theorem JGb(c:Nat)(h:48<=c/\c<=57):2=K8 c:=by unfold K8;rw[if_neg O,if_pos h]
theorem JGc(c:Nat)(h:c=32\/c=9\/c=10\/c=13):3=K8 c:=by unfold K8;rw[if_neg O,if_neg O,if_pos h]
theorem JGd(c:Nat)(h:¬ ((97<=c/\c<=122)\/(65<=c/\c<=90)\/c=95))(h2:¬ (48<=c/\c<=57))(h3:¬ (c=32\/c=9\/c=10\/c=13)):0=K8 c:=by unfold K8;rw[if_neg h,if_neg h2,if_neg h3]
theorem JeV(L:LibL pr F)(c:Nat)(S:St):Det pr F 131 [.int .u8 c] S (.ret (.int .i64 (K8 c))) S:=by
 have hm:=L.hm;refine Det.of hm ?_;obtain⟨H,rw⟩:=S;refine Jt hm L.f131.1 L.f131.2 rfl ?_;rcases(show(97<=c/\c<=122)\/(65<=c/\c<=90)\/c=95\/(c > 122)\/(90<c/\c<95)\/(95<c/\c<97)\/(57<c/\c<65)\/(48<=c/\c<=57)\/c=32\/c=9\/c=10\/c=13\/(c<48/\c≠32/\c≠9/\c≠10/\c≠13) from by omega)with h |h |h |h |h |h |h |h |h |h |h |h |h;all_goals
  refine' VO;refine Js rfl rfl (AI) ⟨?_,rfl⟩;simp only[Res.ret.injEq,AV.int.injEq,true_and];first |exact JGa c O |exact JGb c O |exact JGc c O |exact JGd c O O O
theorem Jw9(c:Nat):K8 c=1\/K8 c=2\/K8 c=3\/K8 c=0:=by
 unfold K8;split
 ·simp
 ·split
  ·simp
  ·split <;> simp
theorem Jsh(L:LibL pr F)(S:St):∃ rows,(rows.length<=1000/\∀ r∈rows,∃ y,r=[.str y])/\Det pr F 243 [] S (.ret (.list 1 .full rows)) S:=by have hm:=L.hm;refine YY hm ?_;obtain⟨H,rw⟩:=S;refine Jt hm L.f243.1 L.f243.2 rfl ?_;refine' VO;refine Js rfl rfl (AI) ⟨_,?_,rfl,rfl⟩;refine⟨Aj,?_⟩;intro r hr;simp only[Jh,AV.cells,Ap,AC,canon1,AS,CH,or_false]at hr;rcases hr with h |h |h |h |h |h |h |h |h |h |h |h |h |h |h |h |h |h |h |h |h |h |h |h |h |h |h |h <;> exact⟨_,h⟩
theorem Jo3(L:LibL pr F)(S:St)(x:Jk):∃ b,True/\Det pr F 226 [.str x] S (.ret (.bool b)) S:=by have hm:=L.hm;refine YY hm ?_;obtain⟨H,rw⟩:=S;refine Jt hm L.f226.1 L.f226.2 rfl ?_;obtain⟨rows,⟨h1,h2⟩,hd⟩:=Jsh L ⟨H,rw⟩;obtain⟨b,-,hd2⟩:=JlB (x:=x) (tag:=.full) (S:=⟨H,rw⟩) L h1 h2;refine' VO;exact Js rfl rfl (AI) ⟨_,trivial,rfl,rfl⟩
theorem Jna(L:LibL pr F)(S:St)(s:Jk)(i:Nat)(l:Bool)(hi:i<=s.length)(hs:s.length<=100000) :
  ∃ j:Nat,(i<=j/\j<=s.length/\∀ c,s[i]? = some c->(K8 c.toNat=2\/l=true/\K8 c.toNat=1)->i<j)/\Det pr F 132 [.str s,.int .i64 i,.bool l] S (.ret (.int .i64 j)) S:=by
 have hm:=L.hm;refine YY hm ?_;obtain⟨H,rw⟩:=S;refine Jt hm L.f132.1 L.f132.2 rfl ?_;have hk1:=JeV L;refine' VO;refine JB hm (λm e S'=>S'=⟨H,rw⟩/\∃ j:Nat,m+j=s.length/\i<=j/\e=[(0,.str s),(1,.int .i64 j),(2,.bool l)]) ?_ (m:=s.length-i) ⟨rfl,i,O,O,rfl⟩;rintro m e S' ⟨rfl,j,hj,hij,rfl⟩;by_cases h:j<s.length
 ·obtain⟨c,hc⟩:∃ c,s[j]? = some c:=⟨_,Ab h⟩
  by_cases k2:K8 c.toNat=2
  ·refine' VO;exact⟨m-1,O,rfl,j+1,O,O,rfl⟩
  ·cases l with
   | true=>
    by_cases k1:K8 c.toNat=1
    ·refine' VO;exact⟨m-1,O,rfl,j+1,O,O,rfl⟩
    ·refine' VO;refine Js rfl rfl (AI) ⟨j,⟨hij,O,?_⟩,rfl,rfl⟩;intro c' hc' hk;by_cases hji:i=j
     ·subst hji;rw[hc]at hc';cases hc';omega
     ·omega
   | false=>
    refine' VO;refine Js rfl rfl (AI) ⟨j,⟨hij,O,?_⟩,rfl,rfl⟩;intro c' hc' hk;by_cases hji:i=j
    ·subst hji;rw[hc]at hc';cases hc';simp[k2]at hk
    ·omega
 ·refine' VO;refine Js rfl rfl (AI) ⟨j,⟨hij,O,?_⟩,rfl,rfl⟩;intro c' hc' hk;by_cases hji:i=j
  ·subst hji;have:=(Ac.1 hc').1;omega
  ·omega
theorem Dm{Q:Prop}(h:Q:=by simp[Jh,canon1,AV.cells]):Q:=h
theorem JtE(L:LibL pr F)(S:St)(s:Jk)(i:Nat)(hi:i<s.length)(hs:s.length<=100000) :
  ∃ n:Nat,i+n<=s.length/\Det pr F 133 [.str s,.int .i64 i] S (.ret (.int .i64 n)) S:=by
 have hm:=L.hm;refine YY hm ?_;obtain⟨H,rw⟩:=S;refine Jt hm L.f133.1 L.f133.2 rfl ?_;by_cases h2:i+2<=s.length
 ·refine' VO;refine Xn rfl rfl rfl (JlB L Aj Dm) ?_;intro b _;refine⟨J5 _ _ _,?_⟩;cases b with
  | true=>refine' VO;exact Js rfl rfl (AI) ⟨2,h2,rfl,rfl⟩
  | false=>
   refine' VO;refine Xn rfl rfl rfl (JlB L Aj Dm) ?_;intro b _;refine⟨J5 _ _ _,?_⟩;cases b with
   | true=>refine' VO;exact Js rfl rfl (AI) ⟨1,O,rfl,rfl⟩
   | false=>refine' VO;exact Js rfl rfl (AI) ⟨0,O,rfl,rfl⟩
 ·refine' VO;refine Xn rfl rfl rfl (JlB L Aj Dm) ?_;intro b _;refine⟨J5 _ _ _,?_⟩;cases b with
  | true=>refine' VO;exact Js rfl rfl (AI) ⟨1,O,rfl,rfl⟩
  | false=>refine' VO;exact Js rfl rfl (AI) ⟨0,O,rfl,rfl⟩
theorem Jay(L:LibL pr F)(S:St)(s:Jk)(i:Nat)(hi:i<=s.length)(hs:s.length<=100000) :
  ∃ j:Nat,(i<=j/\j<=s.length/\∀ c,s[j]? = some c->K8 c.toNat≠3)/\Det pr F 130 [.str s,.int .i64 i] S (.ret (.int .i64 j)) S:=by
 have hm:=L.hm;refine YY hm ?_;obtain⟨H,rw⟩:=S;refine Jt hm L.f130.1 L.f130.2 rfl ?_;have hk1:=JeV L;refine' VO;refine JB hm (λm e S'=>S'=⟨H,rw⟩/\∃ j:Nat,m+j=s.length/\i<=j/\e=[(0,.str s),(1,.int .i64 j)]) ?_ (m:=s.length-i) ⟨rfl,i,O,O,rfl⟩;rintro m e S' ⟨rfl,j,hj,hij,rfl⟩;by_cases h:j<s.length
 ·obtain⟨c,hc⟩:∃ c,s[j]? = some c:=⟨_,Ab h⟩
  by_cases k3:K8 c.toNat=3
  ·refine' VO;exact⟨m-1,O,rfl,j+1,O,O,rfl⟩
  ·by_cases h2:j+2 > s.length
   ·refine' VO;refine Js rfl rfl (AI) ⟨j,⟨hij,O,?_⟩,rfl,rfl⟩;intro c' hc';rw[hc]at hc';cases hc';exact k3
   ·refine' VO;refine JwS rfl (λhb=>?_) (λhb=>?_)
    ·refine' VO;refine Js rfl rfl (AI) ⟨j,⟨hij,O,?_⟩,rfl,rfl⟩;intro c' hc';rw[hc]at hc';cases hc';exact k3
    ·refine' VO;refine JB hm (λm' e S'=>S'=⟨H,rw⟩/\∃ j':Nat,m'+j'=s.length/\j<=j'/\(m=m'->c=47)/\e=[(0,.str s),(1,.int .i64 j')]) ?_ (m:=m) ⟨rfl,j,hj,O,?_,rfl⟩
     ·rintro m' e S' ⟨rfl,j',hj',hjj,h47,rfl⟩;by_cases h:j'<s.length
      ·obtain⟨c',hc'⟩:∃ c,s[j']? = some c:=⟨_,Ab h⟩
       by_cases k10:(c'.toNat:Int)=10
       ·have hne:m≠m':=by intro hmm;have:j=j':=O;subst this;rw[hc]at hc';cases hc';have:=h47 hmm;subst this;simp at k10
        refine' VO;exact⟨m',O,rfl,j',O,O,rfl⟩
       ·refine' VO;exact⟨m'-1,O,rfl,j'+1,O,O,O,rfl⟩
      ·refine' VO;exact⟨m',O,rfl,j',O,O,rfl⟩
     ·intro _;have h5:(s.drop j).take 2=[47,47]:=by simp at hb;have e1:((j:Int)+2).toNat-j=2:=O;rw[e1]at hb;exact hb
      have h6:(s.drop j)[0]? = some 47:=by have:=congrArg (λl=>l[0]?) h5;simp at this;simpa using this
      simp at h6;rw[hc]at h6;cases h6;rfl
 ·refine' VO;refine Js rfl rfl (AI) ⟨j,⟨hij,O,?_⟩,rfl,rfl⟩;intro c' hc';have:=(Ac.1 hc').1;omega
def Rx(rw0 rw:List Nat):Prop:=rw0 <+: rw
theorem Rx.rfl{rw:List Nat}:Rx rw rw:=List.prefix_rfl
theorem Rx.trans{a b c:List Nat}(h:Rx a b)(h':Rx b c):Rx a c:=List.IsPrefix.trans h h'
theorem Rx.le{a b:List Nat}(h:Rx a b):a.length<=b.length:=h.length_le
theorem Rx.get{a b:List Nat}(h:Rx a b){r n:Nat}(hr:a[r]? = some n):b[r]? = some n:=by obtain⟨x,rfl⟩:=h;rw[AZ (Ac.1 hr).1];exact hr
theorem Rx.push{a b:List Nat}(h:Rx a b)(n:Nat):Rx a (b++[n]):=h.trans (Dv b [n])
theorem Rx.set{a b:List Nat}(h:Rx a b){r:Nat}(hr:a.length<=r)(n:Nat):Rx a (b.set r n):=by obtain⟨x,rfl⟩:=h;rw[Di _ _ hr];exact Dv _ _
def Grow(rw0:List Nat)(sz:Nat)(v:AV)(rows:List (List AV))(rw:List Nat):Prop:=
 (rows=[]/\v=.list 0 .full [])\/(rows≠[]/\∃ r,v=.list sz (.row r rows.length) rows/\rw0.length<=r/\rw[r]? = some rows.length)
theorem Grow.nil{rw0 rw:List Nat}{sz:Nat}:Grow rw0 sz (.list 0 .full []) [] rw:=.inl ⟨rfl,rfl⟩
theorem Grow.ext{rw0 rw rw':List Nat}{sz:Nat}{v:AV}{rows:List (List AV)}(h:Grow rw0 sz v rows rw)(hx:Rx rw rw'):Grow rw0 sz v rows rw':=by
 rcases h with h |⟨h0,r,h1,h2,h3⟩
 ·exact .inl h
 ·exact .inr ⟨h0,r,h1,h2,hx.get h3⟩
theorem Grow.push{rw0 rw:List Nat}{sz by_:Nat}{v:AV}{rows:List (List AV)}{row:List AV}{H:List Blk}(h:Grow rw0 sz v rows rw)(hx:Rx rw0 rw)(hb:(rows.length+1)*by_<=Ji)(hl:rows.length+1<=Ji)(hs:0<sz) :
  ∃ v' rw',QK sz by_ v (.list sz .full [row]) ⟨H,rw⟩=some (v',⟨H,rw'⟩)/\Grow rw0 sz v' (rows++[row]) rw'/\Rx rw0 rw':=by
 rcases h with⟨rfl,rfl⟩ |⟨h0,r,rfl,h2,h3⟩
 ·refine⟨.list sz (.row rw.length 1) [row],rw++[1],?_,?_,hx.push 1⟩
  ·simp only[Af]at hb hl;simp[QK,hs];exact⟨O,O⟩
  ·exact .inr ⟨Ag,rw.length,Ag,hx.le,Ag⟩
 ·refine⟨.list sz (.row r (rows.length+1)) (rows++[row]),rw.set r (rows.length+1),?_,?_,hx.set h2 _⟩
  ·simp[QK,hs,h3];exact⟨O,O⟩
  ·have hr:=(Ac.1 h3).1;refine .inr ⟨Ag,r,Ag,h2,?_⟩;rw[A3 hr];simp
def LV(sz:Nat)(v:AV)(rows:List (List AV)):Prop:=(∃ tag,v=.list sz tag rows)\/(rows=[]/\v=.list 0 .full [])
theorem Grow.lv{rw0 rw:List Nat}{sz:Nat}{v:AV}{rows:List (List AV)}(h:Grow rw0 sz v rows rw):LV sz v rows:=by
 rcases h with⟨h1,h2⟩ |⟨_,r,h,_⟩
 ·exact .inr ⟨h1,h2⟩
 ·exact .inl ⟨_,h⟩
theorem LV.below{sz:Nat}{v:AV}{rows:List (List AV)}(h:LV sz v rows)(n:Nat):Ai.below n v=true:=by rcases h with⟨tag,rfl⟩ |⟨_,rfl⟩ <;> rfl
theorem LV.closed{sz:Nat}{v:AV}{rows:List (List AV)}(h:LV sz v rows):J7 v=true:=by rcases h with⟨tag,rfl⟩ |⟨_,rfl⟩ <;> rfl
structure Tok where
 kind:Int
 text:Jk
 at_:Int
def Tok.row(t:Tok):List AV:=[.int .i64 t.kind,.str t.text,.int .i64 t.at_]
def Jnb(t:Tok):Prop:=t.text.length<=8000/\(t.kind=2->∀ c,t.text[0]? = some c->K8 c.toNat=2)
theorem Jdh{s:Jk}{i n:Nat}{c:UInt8}{k a:Int}(hs:s.length<=8000)(hc:s[i]? = some c)(hk:k=2->K8 c.toNat=2):Jnb ⟨k,(s.drop i).take n,a⟩:=by
 refine⟨?_,λh c' hc'=>?_⟩
 ·simp only[A8,Ch];omega
 ·simp only at h hc';cases n with
  | zero=>simp at hc'
  | succ n=>rw[Bi O,Dw,AE,hc]at hc';simp only[V]at hc';subst hc';exact hk h
structure LexOut where
 v:AV
 e:Int
 at_:Int
 toks:List Tok
 rw:List Nat
theorem AD{Q:Prop}(h:Q:=by simp only[Ak,Ji];omega):Q:=h
theorem D5{Q:Prop}(h:Q:=by rw[An];exact hg2):Q:=h
theorem D6{Q:Prop}(h:Q:=by first |exact id |(intro h;omega)):Q:=h
theorem Jo4(L:LibL pr F)(H:List Blk)(rw:List Nat)(s:Jk)(hs:s.length<=8000) :
  ∃ x:LexOut,(Rx rw x.rw/\LV 3 x.v (x.toks.map Tok.row)/\x.toks.length<=8000/\∀ t∈x.toks,Jnb t)/\Det pr F 89 [.str s] ⟨H,rw⟩ (.ret (.tup [x.v,.int .i64 x.e,.int .i64 x.at_])) ⟨H,x.rw⟩:=by
 have hm:=L.hm;suffices h:Wp pr F 89 [.str s] ⟨H,rw⟩ λr S'=>∃ x:LexOut,(Rx rw x.rw/\LV 3 x.v (x.toks.map Tok.row)/\x.toks.length<=8000/\∀ t∈x.toks,Jnb t)/\r=.ret (.tup [x.v,.int .i64 x.e,.int .i64 x.at_])/\S'=⟨H,x.rw⟩ by obtain⟨r,S',hd,x,hp,rfl,rfl⟩:=h.det hm;exact⟨x,hp,hd⟩
 refine Jt hm L.f89.1 L.f89.2 rfl ?_;have hk1:=JeV L;refine' VO;refine Xn rfl rfl rfl (Jay L _ s 0 O O) ?_;rintro i0 ⟨-,hi0,hk0⟩;refine⟨J5 _ _ _,?_⟩;refine' VO;refine JB hm (λm e S'=>∃ rw' v toks,S'=⟨H,rw'⟩/\Rx rw rw'/\Grow rw 3 v (toks.map Tok.row) rw'/\(∀ t:Tok,t∈toks->Jnb t)/\∃ i:Nat,m+i=s.length/\toks.length<=i/\(∀ c,s[i]? = some c->K8 c.toNat≠3)/\e=[(0,.str s),(5,v),(6,.int .i64 i)]) ?_ (m:=s.length-i0) ⟨rw,.list 0 .full [],[],rfl,Rx.rfl,Grow.nil,Ag,i0,O,Ag,hk0,rfl⟩;rintro m e S' ⟨rw',v,toks,rfl,hx,hg,ht,i,hi,hti,hk,rfl⟩;by_cases h:i<s.length
 ·obtain⟨c,hc⟩:∃ c,s[i]? = some c:=⟨_,Ab h⟩
  have k3:=hk c hc;obtain⟨j,⟨hj1,hj2,hj3⟩,hd1⟩:=Jna L ⟨H,rw'⟩ s i true O O;obtain⟨j',⟨hj1',hj2',hj3'⟩,hd2⟩:=Jna L ⟨H,rw'⟩ s i false O O;rcases Jw9 c.toNat with k |k |k |k
  ·have hij:=hj3 c hc (.inr ⟨rfl,k⟩);by_cases h40:(j:Int)-i > 40
   ·refine' VO;exact X7 rfl rfl (AI) ⟨⟨.list 0 .full [],_,_,[],rw'⟩,⟨hx,.inr ⟨rfl,rfl⟩,Ag,Ag⟩,rfl,rfl⟩
   ·refine' VO;obtain⟨v2,rw2,ha,hg2,hx2⟩:=hg.push (by_:=32) (H:=H) (row:=Tok.row ⟨K8 c.toNat,(s.drop i).take (j-i),i⟩) hx AD AD O;refine Zu rfl rfl rfl ha (J5 _ _ _) ?_;refine' VO;refine Xn rfl rfl rfl (Jay L _ s j O O) ?_;rintro i2 ⟨hi2,hi3,hk2⟩;refine⟨J5 _ _ _,?_⟩;refine' VO;refine⟨s.length-i2,O,rw2,v2,toks++[⟨K8 c.toNat,(s.drop i).take (j-i),i⟩],rfl,hx2,D5,?_,i2,O,AR,hk2,rfl⟩;intro t htm;rcases AM.1 htm with h |h
    ·exact ht t h
    ·rw[AN]at h;subst h;exact Jdh hs hc D6
  ·have hij:=hj3' c hc (.inl k);by_cases h300:(j':Int)-i > 300
   ·refine' VO;exact X7 rfl rfl (AI) ⟨⟨.list 0 .full [],_,_,[],rw'⟩,⟨hx,.inr ⟨rfl,rfl⟩,Ag,Ag⟩,rfl,rfl⟩
   ·by_cases h48:(c.toNat:Int)=48
    ·by_cases h1:(j':Int)-i > 1
     ·refine' VO;exact X7 rfl rfl (AI) ⟨⟨.list 0 .full [],_,_,[],rw'⟩,⟨hx,.inr ⟨rfl,rfl⟩,Ag,Ag⟩,rfl,rfl⟩
     ·by_cases he:j'<s.length
      ·obtain⟨c2,hc2⟩:∃ c,s[j']? = some c:=⟨_,Ab he⟩
       by_cases hl:K8 c2.toNat=1
       ·refine' VO;exact X7 rfl rfl (AI) ⟨⟨.list 0 .full [],_,_,[],rw'⟩,⟨hx,.inr ⟨rfl,rfl⟩,Ag,Ag⟩,rfl,rfl⟩
       ·refine' VO;obtain⟨v2,rw2,ha,hg2,hx2⟩:=hg.push (by_:=32) (H:=H) (row:=Tok.row ⟨K8 c.toNat,(s.drop i).take (j'-i),i⟩) hx AD AD O;refine Zu rfl rfl rfl ha (J5 _ _ _) ?_;refine' VO;refine Xn rfl rfl rfl (Jay L _ s j' O O) ?_;rintro i2 ⟨hi2,hi3,hk2⟩;refine⟨J5 _ _ _,?_⟩;refine' VO;refine⟨s.length-i2,O,rw2,v2,toks++[⟨K8 c.toNat,(s.drop i).take (j'-i),i⟩],rfl,hx2,D5,?_,i2,O,AR,hk2,rfl⟩;intro t htm;rcases AM.1 htm with h |h
        ·exact ht t h
        ·rw[AN]at h;subst h;exact Jdh hs hc D6
      ·refine' VO;obtain⟨v2,rw2,ha,hg2,hx2⟩:=hg.push (by_:=32) (H:=H) (row:=Tok.row ⟨K8 c.toNat,(s.drop i).take (j'-i),i⟩) hx AD AD O;refine Zu rfl rfl rfl ha (J5 _ _ _) ?_;refine' VO;refine Xn rfl rfl rfl (Jay L _ s j' O O) ?_;rintro i2 ⟨hi2,hi3,hk2⟩;refine⟨J5 _ _ _,?_⟩;refine' VO;refine⟨s.length-i2,O,rw2,v2,toks++[⟨K8 c.toNat,(s.drop i).take (j'-i),i⟩],rfl,hx2,D5,?_,i2,O,AR,hk2,rfl⟩;intro t htm;rcases AM.1 htm with h |h
       ·exact ht t h
       ·rw[AN]at h;subst h;exact Jdh hs hc D6
    ·by_cases he:j'<s.length
     ·obtain⟨c2,hc2⟩:∃ c,s[j']? = some c:=⟨_,Ab he⟩
      by_cases hl:K8 c2.toNat=1
      ·refine' VO;exact X7 rfl rfl (AI) ⟨⟨.list 0 .full [],_,_,[],rw'⟩,⟨hx,.inr ⟨rfl,rfl⟩,Ag,Ag⟩,rfl,rfl⟩
      ·refine' VO;obtain⟨v2,rw2,ha,hg2,hx2⟩:=hg.push (by_:=32) (H:=H) (row:=Tok.row ⟨K8 c.toNat,(s.drop i).take (j'-i),i⟩) hx AD AD O;refine Zu rfl rfl rfl ha (J5 _ _ _) ?_;refine' VO;refine Xn rfl rfl rfl (Jay L _ s j' O O) ?_;rintro i2 ⟨hi2,hi3,hk2⟩;refine⟨J5 _ _ _,?_⟩;refine' VO;refine⟨s.length-i2,O,rw2,v2,toks++[⟨K8 c.toNat,(s.drop i).take (j'-i),i⟩],rfl,hx2,D5,?_,i2,O,AR,hk2,rfl⟩;intro t htm;rcases AM.1 htm with h |h
       ·exact ht t h
       ·rw[AN]at h;subst h;exact Jdh hs hc D6
     ·refine' VO;obtain⟨v2,rw2,ha,hg2,hx2⟩:=hg.push (by_:=32) (H:=H) (row:=Tok.row ⟨K8 c.toNat,(s.drop i).take (j'-i),i⟩) hx AD AD O;refine Zu rfl rfl rfl ha (J5 _ _ _) ?_;refine' VO;refine Xn rfl rfl rfl (Jay L _ s j' O O) ?_;rintro i2 ⟨hi2,hi3,hk2⟩;refine⟨J5 _ _ _,?_⟩;refine' VO;refine⟨s.length-i2,O,rw2,v2,toks++[⟨K8 c.toNat,(s.drop i).take (j'-i),i⟩],rfl,hx2,D5,?_,i2,O,AR,hk2,rfl⟩;intro t htm;rcases AM.1 htm with h |h
      ·exact ht t h
      ·rw[AN]at h;subst h;exact Jdh hs hc D6
  ·omega
  ·obtain⟨n,hn,hd3⟩:=JtE L ⟨H,rw'⟩ s i h O;by_cases h0:n=0
   ·subst h0;refine' VO;exact X7 rfl rfl (AI) ⟨⟨.list 0 .full [],_,_,[],rw'⟩,⟨hx,.inr ⟨rfl,rfl⟩,Ag,Ag⟩,rfl,rfl⟩
   ·refine' VO;obtain⟨v2,rw2,ha,hg2,hx2⟩:=hg.push (by_:=32) (H:=H) (row:=Tok.row ⟨3,(s.drop i).take ((i+n)-i),i⟩) hx AD AD O;refine Zu rfl rfl rfl ha (J5 _ _ _) ?_;refine' VO;refine Xn rfl rfl rfl (Jay L _ s (i+n) O O) ?_;rintro i2 ⟨hi2,hi3,hk2⟩;refine⟨J5 _ _ _,?_⟩;refine' VO;refine⟨s.length-i2,O,rw2,v2,toks++[⟨3,(s.drop i).take ((i+n)-i),i⟩],rfl,hx2,D5,?_,i2,O,AR,hk2,rfl⟩;intro t htm;rcases AM.1 htm with h |h
    ·exact ht t h
    ·rw[AN]at h;subst h;exact Jdh hs hc D6
 ·refine' VO;refine X7 rfl (by simp only[belowL,hg.lv.below,Ai.below];rfl) (AI) ⟨⟨v,0,0,toks,rw'⟩,⟨hx,hg.lv,?_,ht⟩,rfl,rfl⟩;simp only;omega
structure Nm(s:Jk):Prop where
 len:s.length<=40
 pos:0<s.length
 first:∀ c,s[0]? = some c->K8 c.toNat=1
 all:∀ c∈s,K8 c.toNat=1\/K8 c.toNat=2
theorem JtF(L:LibL pr F)(S:St)(s:Jk):∃ b,(b=true->Nm s)/\Det pr F 191 [.str s] S (.ret (.bool b)) S:=by
 have hm:=L.hm;refine YY hm ?_;obtain⟨H,rw⟩:=S;refine Jt hm L.f191.1 L.f191.2 rfl ?_;have hk1:=JeV L;obtain⟨b,-,hd⟩:=Jo3 L ⟨H,rw⟩ s;by_cases h0:s.length=0
 ·refine' VO;exact Js rfl rfl (AI) ⟨_,Ag,rfl,rfl⟩
 by_cases h1:s.length > 40
 ·refine' VO;exact Js rfl rfl (AI) ⟨_,Ag,rfl,rfl⟩
 obtain⟨c,hc⟩:∃ c,s[0]? = some c:=⟨_,Ab O⟩
 by_cases h2:K8 c.toNat=1
 ·cases b with
  | true=>refine' VO;exact Js rfl rfl (AI) ⟨_,Ag,rfl,rfl⟩
  | false=>
   have hN:(∀ c∈s,K8 c.toNat=1\/K8 c.toNat=2)->Nm s:=λh=>⟨O,O,λc' hc'=>by rw[hc]at hc';cases hc';exact h2,h⟩
   refine' VO;refine JB hm (λm e S'=>S'=⟨H,rw⟩/\∃ i:Nat,m+i=s.length/\(∀ c∈s.take i,K8 c.toNat=1\/K8 c.toNat=2)/\e=[(0,.str s),(3,.int .i64 i)]) ?_ (m:=s.length) ⟨rfl,0,rfl,Ag,rfl⟩;rintro m e S' ⟨rfl,i,hi,hall,rfl⟩;by_cases h:i<s.length
   ·obtain⟨c,hc⟩:∃ c,s[i]? = some c:=⟨_,Ab h⟩
    have hall':(K8 c.toNat=1\/K8 c.toNat=2)->∀ c∈s.take (i+1),K8 c.toNat=1\/K8 c.toNat=2:=by
     intro hk x hx;have hx2:x∈s.take i++[c]:=by rw[List.take_add_one,hc]at hx;exact hx
     rcases AM.1 hx2 with hx2 |hx2
     ·exact hall x hx2
     ·rw[AN]at hx2;subst hx2;exact hk
    by_cases k1:K8 c.toNat=1
    ·refine' VO;exact⟨m-1,O,rfl,i+1,O,hall' (.inl k1),rfl⟩
    ·by_cases k2:K8 c.toNat=2
     ·refine' VO;exact⟨m-1,O,rfl,i+1,O,hall' (.inr k2),rfl⟩
     ·refine' VO;exact Js rfl rfl (AI) ⟨_,Ag,rfl,rfl⟩
   ·refine' VO;have hi2:i=s.length:=O;subst hi2;rw[AI]at hall;exact Js rfl rfl (AI) ⟨_,λ_=>hN hall,rfl,rfl⟩
 ·refine' VO;exact Js rfl rfl (AI) ⟨_,Ag,rfl,rfl⟩
mutual
inductive Ty where
 | mk (kind:Int) (name:Jk) (null:Bool) (K5:List Ty) (pred:List Xp) (at_:Int)
inductive Xp where
 | mk (op name:Jk) (args:List Xp) (ty:List Ty) (at_:Int)
end
inductive Sm where
 | mk (kind name:Jk) (ty:List Ty) (exs:List Xp) (body els:List Sm) (at_:Int)
structure Par where
 name:Jk
 type:Ty
 at_:Int
structure Fld where
 name:Jk
 type:Ty
 fin:Bool
 at_:Int
structure Mth where
 name:Jk
 params:List Par
 result:Ty
 body:List Sm
 abs:Bool
 at_:Int
structure Ctr where
 params:List Par
 hasSuper:Bool
 super:List Xp
 body:List Sm
 at_:Int
structure Cls where
 name:Jk
 iface:Bool
 super:Jk
 above:List Jk
 fields:List Fld
 invs:List Xp
 ctors:List Ctr
 meths:List Mth
 at_:Int
structure Prg where
 classes:List Cls
 main:List Sm
def Kp(sz:Nat):List (List AV)->AV
 | []=>.list 0 .full []
 | r::rs=>.list sz .dead (r::rs)
mutual
def Jl:Ty->List AV
 | .mk kind name null K5 pred at_=>[.int .i64 kind,.str name,.bool null,Kp 6 (Jo K5),Kp 5 (Ja pred),.int .i64 at_]
def Jo:List Ty->List (List AV)
 | []=>[]
 | t::ts=>Jl t::Jo ts
def Jb:Xp->List AV
 | .mk op name args ty at_=>[.str op,.str name,Kp 5 (Ja args),Kp 6 (Jo ty),.int .i64 at_]
def Ja:List Xp->List (List AV)
 | []=>[]
 | x::xs=>Jb x::Ja xs
end
mutual
def Jp:Sm->List AV
 | .mk kind name ty exs body els at_=>[.str kind,.str name,Kp 6 (Jo ty),Kp 5 (Ja exs),Kp 7 (Jg body),Kp 7 (Jg els),.int .i64 at_]
def Jg:List Sm->List (List AV)
 | []=>[]
 | x::xs=>Jp x::Jg xs
end
def Jf(p:Par):List AV:=.str p.name::(Jl p.type++[.int .i64 p.at_])
def Jn(p:Fld):List AV:=.str p.name::(Jl p.type++[.bool p.fin,.int .i64 p.at_])
def Jm(p:Mth):List AV:=.str p.name::Kp 8 (p.params.map Jf)::(Jl p.result++[Kp 7 (Jg p.body),.bool p.abs,.int .i64 p.at_])
def Jw(p:Ctr):List AV:=[Kp 8 (p.params.map Jf),.bool p.hasSuper,Kp 5 (Ja p.super),Kp 7 (Jg p.body),.int .i64 p.at_]
def Qy(x:Jk):List AV:=[.str x]
def Jc(c:Cls):List AV:=[.str c.name,.bool c.iface,.str c.super,Kp 1 (c.above.map Qy),Kp 9 (c.fields.map Jn),Kp 5 (Ja c.invs),Kp 5 (c.ctors.map Jw),Kp 11 (c.meths.map Jm),.int .i64 c.at_]
def JU(p:Prg):List AV:=[Kp 9 (p.classes.map Jc),Kp 7 (Jg p.main)]
mutual
def wTy:Ty->Nat
 | .mk _ name _ K5 pred _=>1+name.length+Vr K5+KQ pred
def Vr:List Ty->Nat
 | []=>0
 | t::ts=>wTy t+Vr ts
def Zw:Xp->Nat
 | .mk op name args ty _=>1+op.length+name.length+KQ args+Vr ty
def KQ:List Xp->Nat
 | []=>0
 | x::xs=>Zw x+KQ xs
end
mutual
def wSm:Sm->Nat
 | .mk kind name ty exs body els _=>1+kind.length+name.length+Vr ty+KQ exs+Qj body+Qj els
def Qj:List Sm->Nat
 | []=>0
 | x::xs=>wSm x+Qj xs
end
def JlC(p:Par):Nat:=1+p.name.length+wTy p.type
def wL{α:Type}(w:α->Nat):List α->Nat
 | []=>0
 | x::xs=>w x+wL w xs
def JlD(p:Fld):Nat:=1+p.name.length+wTy p.type
def JcF(p:Mth):Nat:=1+p.name.length+wL JlC p.params+wTy p.result+Qj p.body
def Jhb(p:Ctr):Nat:=1+wL JlC p.params+KQ p.super+Qj p.body
def wNm(x:Jk):Nat:=1+x.length
def Xx(c:Cls):Nat:=1+c.name.length+c.super.length+wL wNm c.above+wL JlD c.fields+KQ c.invs+wL Jhb c.ctors+wL JcF c.meths
def KO(x:Jk):Int:=
 if x=[61,62] then 0 else if x=[124,124] then 1 else if x=[38,38] then 2
 else if x=[61,61]\/x=[33,61]\/x=[60]\/x=[60,61]\/x=[62]\/x=[62,61] then 3
 else if x=[43]\/x=[45] then 4 else if x=[42]\/x=[47]\/x=[37] then 5 else -1
def Jnc(op name:Jk)(args:List Xp)(ty:List Ty):Prop:=
 (op=[110,117,109]/\args=[]/\ty=[]/\∀ c,name[0]? = some c->K8 c.toNat=2)\/(op=[118,97,114]/\args=[]/\ty=[]/\Nm name) \/
 ((op=[116,114,117,101]\/op=[102,97,108,115,101]\/op=[110,117,108,108]\/op=[116,104,105,115]\/op=[114,101,97,100])/\args=[]/\ty=[]/\name=[]) \/
 (op=[108,101,110]/\(∃ a,args=[a])/\ty=[]/\name=[])\/(op=[110,101,119]/\ty=[]/\Nm name)\/(op=[108,105,115,116]/\(∃ a b,args=[a,b])/\(∃ t,ty=[t])/\name=[]) \/
 (op=[102,105,101,108,100]/\(∃ a,args=[a])/\ty=[]/\Nm name)\/(op=[99,97,108,108]/\(∃ a l,args=a::l)/\ty=[]/\Nm name)\/(op=[105,110,100,101,120]/\(∃ a b,args=[a,b])/\ty=[]/\name=[]) \/
 ((op=[110,101,103]\/op=[110,111,116])/\(∃ a,args=[a])/\ty=[]/\name=[])\/(0<=KO op/\(∃ a b,args=[a,b])/\ty=[]/\name=[])
mutual
def JeW:Ty->Prop
 | .mk kind name null K5 pred _=>((kind=1/\K5=[]/\name=[]/\null=false)\/(kind=2/\K5=[]/\name=[]/\null=false)\/(kind=3/\K5=[]/\Nm name)\/(kind=4/\name=[]/\∃ t,K5=[t]))/\pred.length<=1/\XW K5/\QU pred
def XW:List Ty->Prop
 | []=>True
 | t::ts=>JeW t/\XW ts
def X4:Xp->Prop
 | .mk op name args ty _=>Jnc op name args ty/\QU args/\XW ty
def QU:List Xp->Prop
 | []=>True
 | x::xs=>X4 x/\QU xs
end
def Jd2(kind name:Jk)(ty:List Ty)(exs:List Xp)(body els:List Sm):Prop:=
 (kind=[108,101,116]/\Nm name/\ty.length<=1/\(∃ a,exs=[a])/\body=[]/\els=[])\/(kind=[115,101,116]/\Nm name/\ty=[]/\(∃ a,exs=[a])/\body=[]/\els=[]) \/
 (kind=[102,105,101,108,100]/\Nm name/\ty=[]/\(∃ a b,exs=[a,b])/\body=[]/\els=[])\/(kind=[101,108,101,109]/\name=[]/\ty=[]/\(∃ a b c,exs=[a,b,c])/\body=[]/\els=[]) \/
 (kind=[105,102]/\name=[]/\ty=[]/\(∃ a,exs=[a]))\/(kind=[119,104,105,108,101]/\name=[]/\ty=[]/\(∃ a l,exs=a::l)/\els=[]) \/
 (kind=[114,101,116,117,114,110]/\name=[]/\ty=[]/\exs.length<=1/\body=[]/\els=[])\/((kind=[97,115,115,101,114,116]\/kind=[112,114,105,110,116]\/kind=[100,111])/\name=[]/\ty=[]/\(∃ a,exs=[a])/\body=[]/\els=[])
mutual
def Ja0:Sm->Prop
 | .mk kind name ty exs body els _=>Jd2 kind name ty exs body els/\XW ty/\QU exs/\Vf body/\Vf els
def Vf:List Sm->Prop
 | []=>True
 | x::xs=>Ja0 x/\Vf xs
end
def Jkm(p:Par):Prop:=Nm p.name/\JeW p.type
def JTr(p:Fld):Prop:=Nm p.name/\JeW p.type
def JfH(t:Ty):Prop:=∃ a,t=.mk 0 [] false [] [] a
def Jnd(p:Mth):Prop:=Nm p.name/\(∀ x∈p.params,Jkm x)/\(JeW p.result\/JfH p.result)/\Vf p.body/\(p.abs=true->p.body=[])
def JtG(p:Ctr):Prop:=(∀ x∈p.params,Jkm x)/\QU p.super/\Vf p.body
def JcG(c:Cls):Prop:=Nm c.name/\(c.super=[]\/(Nm c.super/\c.iface=false))/\(∀ x∈c.above,Nm x)/\(∀ x∈c.fields,JTr x)/\QU c.invs/\(∀ x∈c.ctors,JtG x)/\(∀ x∈c.meths,Jnd x)
def JdG(p:Prg):Prop:=(∀ c∈p.classes,JcG c)/\Vf p.main
theorem Jd3(ts:List Ty):Jo ts=ts.map Jl:=by
 induction ts with
 | nil=>simp[Jo]
 | cons t ts ih=>simp[Jo,ih]
theorem KB(xs:List Xp):Ja xs=xs.map Jb:=by
 induction xs with
 | nil=>simp[Ja]
 | cons t ts ih=>simp[Ja,ih]
theorem Qh(xs:List Sm):Jg xs=xs.map Jp:=by
 induction xs with
 | nil=>simp[Jg]
 | cons t ts ih=>simp[Jg,ih]
theorem V3(a b:List Xp):Ja (a++b)=Ja a++Ja b:=by simp[KB]
theorem JaR(a b:List Xp):KQ (a++b)=KQ a+KQ b:=by
 induction a with
 | nil=>simp[KQ]
 | cons x xs ih=>simp[KQ,ih];omega
theorem Jne(a b:List Sm):Qj (a++b)=Qj a+Qj b:=by
 induction a with
 | nil=>simp[Qj]
 | cons x xs ih=>simp[Qj,ih];omega
theorem VP{α:Type}(w:α->Nat)(a b:List α):wL w (a++b)=wL w a+wL w b:=by
 induction a with
 | nil=>simp[wL]
 | cons x xs ih=>simp[wL,ih];omega
theorem Jag(a b:List Xp):QU (a++b)↔QU a/\QU b:=by
 induction a with
 | nil=>simp[QU]
 | cons x xs ih=>simp[QU,ih,and_assoc]
theorem JlE(a b:List Sm):Vf (a++b)↔Vf a/\Vf b:=by
 induction a with
 | nil=>simp[Vf]
 | cons x xs ih=>simp[Vf,ih,and_assoc]
theorem JV(xs:List Xp):(Ja xs).length=xs.length:=by simp[KB]
theorem Jd4(xs:List Ty):(Jo xs).length=xs.length:=by simp[Jd3]
theorem Jd5(xs:List Sm):(Jg xs).length=xs.length:=by simp[Qh]
theorem Jq(sz:Nat)(rows:List (List AV)):canon1 (Kp sz rows)=Kp sz rows:=by cases rows <;> rfl
theorem XR(sz:Nat)(rows:List (List AV)):J7 (Kp sz rows)=true:=by cases rows <;> rfl
theorem Ke(sz:Nat):Kp sz []=.list 0 .full []:=rfl
theorem JN(x:Jk):canon1 (.str x)=.str x:=rfl
theorem JO(k:IntKind)(x:Int):canon1 (.int k x)=.int k x:=rfl
theorem JD(x:Bool):canon1 (.bool x)=.bool x:=rfl
theorem JP:canon1 (.list 0 .full [])=.list 0 .full []:=rfl
structure Row(n:Nat)(r:List AV):Prop where
 len:r.length=n
 can:Jh r=r
 clo:Kl r=true
theorem K9(t:Ty):Row 6 (Jl t):=by obtain⟨kind,name,null,K5,pred,at_⟩:=t;exact⟨rfl,by show [_,_,_,canon1 (Kp 6 (Jo K5)),canon1 (Kp 5 (Ja pred)),_]=_;rw[Jq,Jq];rfl,by simp only[Jl,Kl,J7,XR,A0]⟩
theorem JG(t:Xp):Row 5 (Jb t):=by obtain⟨op,name,args,ty,at_⟩:=t;exact⟨rfl,by show [_,_,canon1 (Kp 5 (Ja args)),canon1 (Kp 6 (Jo ty)),_]=_;rw[Jq,Jq];rfl,by simp only[Jb,Kl,J7,XR,A0]⟩
theorem Kx(t:Sm):Row 7 (Jp t):=by obtain⟨kind,name,ty,exs,body,els,at_⟩:=t;exact⟨rfl,by show [_,_,canon1 (Kp 6 (Jo ty)),canon1 (Kp 5 (Ja exs)),canon1 (Kp 7 (Jg body)),canon1 (Kp 7 (Jg els)),_]=_;simp only[Jq];rfl,by simp only[Jp,Kl,J7,XR,A0]⟩
theorem Vs(p:Par):Row 8 (Jf p):=by
 have h:=K9 p.type;exact⟨by simp[Jf,h.len],by
  show canon1 _::Jh (Jl p.type++[_])=_;simp only[Jh,An];have:=h.can;simp only[Jh]at this;rw[this];rfl,by
  simp only[Jf,Kl];have:=h.clo;obtain⟨kind,name,null,K5,pred,at_⟩:=p.type;simp only[Jl,Aw,Au,Kl,J7,XR,A0]⟩
theorem QE(p:Fld):Row 9 (Jn p):=by
 have h:=K9 p.type;exact⟨by simp[Jn,h.len],by
  show canon1 _::Jh (Jl p.type++[_,_])=_;simp only[Jh,An];have:=h.can;simp only[Jh]at this;rw[this];rfl,by
  simp only[Jn,Kl];obtain⟨kind,name,null,K5,pred,at_⟩:=p.type;simp only[Jl,Aw,Au,Kl,J7,XR,A0]⟩
theorem Qa(p:Mth):Row 11 (Jm p):=by
 have h:=K9 p.result;exact⟨by simp[Jm,h.len],by
  show canon1 _::canon1 _::Jh (Jl p.result++[_,_,_])=_;simp only[Jh,An,Jq];have:=h.can;simp only[Jh]at this;rw[this];simp only[Ap,AC,Jq];rfl,by
  simp only[Jm,Kl];obtain⟨kind,name,null,K5,pred,at_⟩:=p.result;simp only[Jl,Aw,Au,Kl,J7,XR,A0]⟩
theorem QL(p:Ctr):Row 5 (Jw p):=
 ⟨rfl,by show [canon1 (Kp 8 _),_,canon1 (Kp 5 _),canon1 (Kp 7 _),_]=_;simp only[Jq];rfl,by simp only[Jw,Kl,J7,XR,A0]⟩
theorem Xy(x:Jk):Row 1 (Qy x):=⟨rfl,rfl,rfl⟩
theorem KT(p:Cls):Row 9 (Jc p):=
 ⟨rfl,by show [_,_,_,canon1 (Kp 1 _),canon1 (Kp 9 _),canon1 (Kp 5 _),canon1 (Kp 5 _),canon1 (Kp 11 _),_]=_;simp only[Jq];rfl,by simp only[Jc,Kl,J7,XR,A0]⟩
theorem QM(p:Prg):Row 2 (JU p):=
 ⟨rfl,by show [canon1 (Kp 9 _),canon1 (Kp 7 _)]=_;simp only[Jq];rfl,by simp only[JU,Kl,XR,A0]⟩
theorem Row.load{n:Nat}{r:List AV}(h:Row n r):J9 (some n) (.ptr 0 0) [.cells r]=some (.agg r):=by simp only[J9,Am,h.len,AF,Ao,if_true,AA];rw[AB (by rw[h.len];exact Ao _),h.can]
theorem Row.below{n:Nat}{r:List AV}(h:Row n r)(k:Nat):Ai.below k (.agg r)=true:=ZZ k _ (by simp only[J7];exact h.clo)
theorem Row.rows1{n:Nat}{r:List AV}(h:Row n r):Yx n [.agg r]=some [r]:=by simp only[Yx,AV.cells,h.len,J7,h.clo,AV.okv,h.can,and_self,if_true,A9]
theorem Row.rows2{n:Nat}{r q:List AV}(h:Row n r)(h':Row n q):Yx n [.agg r,.agg q]=some [r,q]:=by simp only[Yx,AV.cells,h.len,J7,h.clo,h'.len,h'.clo,AV.okv,h.can,h'.can,and_self,if_true,A9]
def Lst(rw0:List Nat)(sz:Nat)(v:AV)(rows:List (List AV))(rw:List Nat):Prop:=Grow rw0 sz v rows rw\/(rows≠[]/\v=.list sz .full rows)
theorem Lst.ext{rw0 rw rw':List Nat}{sz:Nat}{v:AV}{rows:List (List AV)}(h:Lst rw0 sz v rows rw)(hx:Rx rw rw'):Lst rw0 sz v rows rw':=h.imp (λh=>h.ext hx) id
theorem Lst.push{rw0 rw:List Nat}{sz by_:Nat}{v:AV}{rows:List (List AV)}{row:List AV}{H:List Blk}(h:Lst rw0 sz v rows rw)(hx:Rx rw0 rw)(hb:(rows.length+1)*by_<=Ji)(hl:rows.length+1<=Ji)(hs:0<sz) :
  ∃ v' rw',QK sz by_ v (.list sz .full [row]) ⟨H,rw⟩=some (v',⟨H,rw'⟩)/\Lst rw0 sz v' (rows++[row]) rw'/\Rx rw0 rw':=by
 rcases h with h |⟨h0,rfl⟩
 ·obtain⟨v',rw',h1,h2,h3⟩:=h.push (H:=H) (row:=row) hx hb hl hs;exact⟨v',rw',h1,.inl h2,h3⟩
 ·refine⟨.list sz (.row rw.length (rows.length+1)) (rows++[row]),rw++[rows.length+1],?_,?_,hx.push _⟩
  ·simp[QK,hs];exact⟨O,O⟩
  ·exact .inl (.inr ⟨Ag,rw.length,Ag,hx.le,Ag⟩)
def JdH:AV->Option Nat
 | .list _ (.row a _) _=>some a
 | _=>none
def Disj(v v2:AV):Prop:=∀ a,JdH v=some a->JdH v2≠some a
theorem Disj.symm{v v2:AV}(h:Disj v v2):Disj v2 v:=λa h1 h2=>h a h2 h1
theorem Lst.nil{rw0 rw:List Nat}{sz:Nat}:Lst rw0 sz (.list 0 .full []) [] rw:=.inl Grow.nil
theorem Lst.lit{rw0 rw:List Nat}{sz:Nat}{rows:List (List AV)}(h:rows≠[]):Lst rw0 sz (.list sz .full rows) rows rw:=.inr ⟨h,rfl⟩
theorem Lst.row_lt{rw0 rw:List Nat}{sz:Nat}{v:AV}{rows:List (List AV)}(h:Lst rw0 sz v rows rw){a:Nat}(ha:JdH v=some a):a<rw.length:=by
 rcases h with(⟨rfl,rfl⟩ |⟨h0,r,rfl,h1,h2⟩) |⟨h0,rfl⟩
 ·simp[JdH]at ha
 ·simp only[JdH,V]at ha;subst ha;exact(Ac.1 h2).1
 ·simp[JdH]at ha
theorem Lst.push2{rw0 rw:List Nat}{sz by_:Nat}{v:AV}{rows:List (List AV)}{row:List AV}{H:List Blk}(h:Lst rw0 sz v rows rw)(hx:Rx rw0 rw)(hb:(rows.length+1)*by_<=Ji)(hl:rows.length+1<=Ji)(hs:0<sz)
  {sz2:Nat} {v2:AV} {rows2:List (List AV)} (h2:Lst rw0 sz2 v2 rows2 rw) (hd:Disj v v2) :
  ∃ v' rw',QK sz by_ v (.list sz .full [row]) ⟨H,rw⟩=some (v',⟨H,rw'⟩)/\Lst rw0 sz v' (rows++[row]) rw'/\Rx rw0 rw'/\Lst rw0 sz2 v2 rows2 rw'/\Disj v' v2:=by
 have new:∀ k,Lst rw0 sz2 v2 rows2 (rw++[k])/\Disj (.list sz (.row rw.length k) (rows++[row])) v2:=by intro k;refine⟨h2.ext (Dv _ _),λa ha hb=>?_⟩;simp only[JdH,V]at ha;have:=h2.row_lt hb;omega
 rcases h with(⟨rfl,rfl⟩ |⟨h0,r,rfl,h1,h3⟩) |⟨h0,rfl⟩
 ·refine⟨.list sz (.row rw.length 1) [row],rw++[1],?_,?_,hx.push 1,new 1⟩
  ·simp only[Af]at hb hl;simp[QK,hs];exact⟨O,O⟩
  ·exact .inl (.inr ⟨Ag,rw.length,Ag,hx.le,Ag⟩)
 ·refine⟨.list sz (.row r (rows.length+1)) (rows++[row]),rw.set r (rows.length+1),?_,?_,hx.set h1 _,?_,?_⟩
  ·simp[QK,hs,h3];exact⟨O,O⟩
  ·have hr:=(Ac.1 h3).1;refine .inl (.inr ⟨Ag,r,Ag,h1,?_⟩);rw[A3 hr];simp
  ·rcases h2 with(⟨rfl,rfl⟩ |⟨g0,r2,rfl,g1,g3⟩) |⟨g0,rfl⟩
   ·exact .inl (.inl ⟨rfl,rfl⟩)
   ·have hne:r≠r2:=by intro hrr;exact hd r rfl (by rw[hrr];rfl)
    exact .inl (.inr ⟨g0,r2,rfl,g1,by rw[Bf hne];exact g3⟩)
   ·exact .inr ⟨g0,rfl⟩
  ·intro a ha hb;simp only[JdH,V]at ha;subst ha;exact hd r rfl hb
 ·refine⟨.list sz (.row rw.length (rows.length+1)) (rows++[row]),rw++[rows.length+1],?_,?_,hx.push _,new _⟩
  ·simp[QK,hs];exact⟨O,O⟩
  ·exact .inl (.inr ⟨Ag,rw.length,Ag,hx.le,Ag⟩)
theorem Lst.tag{rw0 rw:List Nat}{sz:Nat}{v:AV}{rows:List (List AV)}(h:Lst rw0 sz v rows rw):∃ sz' tag,v=.list sz' tag rows/\(rows≠[]->sz'=sz)/\(rows=[]->sz'=0/\tag=.full):=by
 rcases h with(⟨rfl,rfl⟩ |⟨h0,r,rfl,_⟩) |⟨h0,rfl⟩
 ·exact⟨0,.full,rfl,λh=>absurd rfl h,λ_=>⟨rfl,rfl⟩⟩
 ·exact⟨sz,_,rfl,λ_=>rfl,λh=>absurd h h0⟩
 ·exact⟨sz,_,rfl,λ_=>rfl,λh=>absurd h h0⟩
structure IsL(sz:Nat)(v:AV)(rows:List (List AV)):Prop where
 ex:∃ sz' tag,v=.list sz' tag rows/\(rows≠[]->sz'=sz)/\(rows=[]->sz'=0/\tag=.full)
theorem Lst.isL{rw0 rw:List Nat}{sz:Nat}{v:AV}{rows:List (List AV)}(h:Lst rw0 sz v rows rw):IsL sz v rows:=⟨h.tag⟩
theorem IsL.canon{sz:Nat}{v:AV}{rows:List (List AV)}(h:IsL sz v rows):canon1 v=Kp sz rows:=by
 obtain⟨sz',tag,rfl,h1,h2⟩:=h.ex;cases rows with
 | nil=>obtain⟨rfl,rfl⟩:=h2 rfl;rfl
 | cons r rs=>rw[h1 Ag];cases tag <;> rfl
theorem IsL.below{sz:Nat}{v:AV}{rows:List (List AV)}(h:IsL sz v rows)(n:Nat):Ai.below n v=true:=by obtain⟨sz',tag,rfl,h1,h2⟩:=h.ex;rfl
theorem IsL.closed{sz:Nat}{v:AV}{rows:List (List AV)}(h:IsL sz v rows):J7 v=true:=by obtain⟨sz',tag,rfl,h1,h2⟩:=h.ex;rfl
theorem IsL.nil{sz:Nat}:IsL sz (.list 0 .full []) []:=⟨0,.full,rfl,λh=>absurd rfl h,λ_=>⟨rfl,rfl⟩⟩
theorem IsL.lit{sz:Nat}{tag:Tag}{rows:List (List AV)}(h:rows≠[]):IsL sz (.list sz tag rows) rows:=⟨sz,tag,rfl,λ_=>rfl,λh'=>absurd h' h⟩
theorem IsL.one{sz:Nat}{v:AV}{rows:List (List AV)}(h:IsL sz v rows):v.cells=[v]/\v.okv=true:=by obtain⟨sz',tag,rfl,h1,h2⟩:=h.ex;exact⟨rfl,rfl⟩
theorem YM{sz:Nat}{rows:List (List AV)}:IsL sz (Kp sz rows) rows:=by
 cases rows with
 | nil=>exact IsL.nil
 | cons r rs=>exact IsL.lit Ag
structure LT{α:Type}(sz:Nat)(rows:List α->List (List AV)) where
 v:AV
 xs:List α
 is:IsL sz v (rows xs)
theorem LT.canon{α:Type}{sz:Nat}{rows:List α->List (List AV)}(l:LT sz rows):canon1 l.v=Kp sz (rows l.xs):=l.is.canon
theorem LT.one{α:Type}{sz:Nat}{rows:List α->List (List AV)}(l:LT sz rows):l.v.cells=[l.v]:=l.is.one.1
theorem LT.okv{α:Type}{sz:Nat}{rows:List α->List (List AV)}(l:LT sz rows):l.v.okv=true:=l.is.one.2
theorem LT.below{α:Type}{sz:Nat}{rows:List α->List (List AV)}(l:LT sz rows)(n:Nat):Ai.below n l.v=true:=l.is.below n
theorem JH(cs:List AV):(AV.agg cs).cells=cs:=rfl
theorem JI(k:IntKind)(x:Int):(AV.int k x).cells=[.int k x]:=rfl
theorem JJ(x:Jk):(AV.str x).cells=[.str x]:=rfl
theorem Jv(x:Bool):(AV.bool x).cells=[.bool x]:=rfl
theorem Jx(k:Nat)(t:Tag)(x:List (List AV)):(AV.list k t x).cells=[.list k t x]:=rfl
theorem JL(k l:Nat):(AV.ptr k l).cells=[.ptr k l]:=rfl
theorem JfI(t:Ty):(Jl t).length=6:=(K9 t).len
theorem Jkn(t:Xp):(Jb t).length=5:=(JG t).len
theorem Jko(t:Sm):(Jp t).length=7:=(Kx t).len
variable {b0 base:Nat} {Q:Ex->KC->St->Prop} {k:List Fr} {e:KC} {prev items:List Item} {kp:List Nat} {ix:Nat} {d:Option Nat} {g:Option (Nat×Bool)}
variable {H:List Blk} {rw:List Nat} {n:Nat} {b:Blk} {M M':List Blk}
theorem Jxa(hm:Yy pr){al:List (List AV)}{L:Nat}(hlt:n<H.length)(hM:M++al.map .cells=M')(hL:M.length=L)(h:In pr F b0 Q (H.length+L) [] items kp k e ⟨hp H n b M',rw⟩) :
  At pr F b0 Q (.region al items kp) k e ⟨hp H n b M,rw⟩:=by
 subst hM hL;exact Xe hm (Jau hlt) XO h
theorem Jsi{j L q:Nat}{zs:List AV}(hlt:n<H.length)(hw:wanted g (Jj e)=some true)(hq:L+j=q)(hM:M[q]? = some (.cells zs))(h:In pr F b0 Q (H.length+L) (⟨ix,d,g,.q (.alloc j zs)⟩::prev) items kp k (KD e d (.ptr (H.length+q) 0)) ⟨hp H n b M,rw⟩) :
  In pr F b0 Q (H.length+L) prev (⟨ix,d,g,.q (.alloc j zs)⟩::items) kp k e ⟨hp H n b M,rw⟩:=by
 subst hq;exact Kj hw (D0 _ _ _) ((Vq hlt _).trans hM) h
theorem JcH{cs vs:List AV}(h:cs.length=vs.length):overlay cs 0 vs=vs:=by simp[overlay,h]
section
variable {K:St->Prop}
theorem Jqx{kd j off:Nat}{v:AV}{cs cs':List AV}(hlt:n<H.length)(hb:b0<=H.length+j\/Ai.below (H.length+j+1) v=true)(hM:M[j]? = some (.cells cs))(hv:v.cells.length=kd/\v.okv=true/\off+kd<=cs.length)(hc:overlay cs off v.cells=cs')(hs:M.set j (.cells cs')=M')(h:K ⟨hp H n b M',rw⟩) :
  StAt b0 kd (.ptr (H.length+j) off) v ⟨hp H n b M,rw⟩ K:=by
 subst hc hs;refine⟨_,?_,h⟩;unfold JcD;simp only[(Vq hlt j).trans hM];rw[if_pos ⟨hv.1,hv.2.1,hv.2.2,hb⟩,YS hlt]
theorem JtH{kd j:Nat}{vs cs:List AV}(hlt:n<H.length)(hb:b0<=H.length+j\/Ai.below (H.length+j+1) (.agg vs)=true)(hM:M[j]? = some (.cells cs))(hc:cs.length=kd)(hv:vs.length=kd)(hs:M.set j (.cells vs)=M')(h:K ⟨hp H n b M',rw⟩) :
  StAt b0 kd (.ptr (H.length+j) 0) (.agg vs) ⟨hp H n b M,rw⟩ K:=
 Jqx hlt hb hM ⟨hv,rfl,O⟩ (JcH (by rw[hc];exact hv.symm)) hs h
theorem JGe{kd j:Nat}{vs cs:List AV}(hlt:n<H.length)(hM:M[j]? = some (.cells cs))(hc:cs.length=kd)(hv:Row kd vs)(hs:M.set j (.cells vs)=M')(h:K ⟨hp H n b M',rw⟩) :
  StAt b0 kd (.ptr (H.length+j) 0) (.agg vs) ⟨hp H n b M,rw⟩ K:=JtH hlt (.inr (hv.below _)) hM hc hv.len hs h
end
section
variable {L:AV->Prop}
theorem Jd6{kd j:Nat}{vs:List AV}(hlt:n<H.length)(hM:M[j]? = some (.cells vs))(hv:Row kd vs)(h:L (.agg vs)):LdAt (some kd) (.ptr (H.length+j) 0) ⟨hp H n b M,rw⟩ L:=JcE ((Vq hlt j).trans hM) hv.can hv.len h
theorem Jo6{kd j:Nat}{cs vs:List AV}(hlt:n<H.length)(hM:M[j]? = some (.cells cs))(hc:Jh cs=vs)(hl:cs.length=kd)(h:L (.agg vs)):LdAt (some kd) (.ptr (H.length+j) 0) ⟨hp H n b M,rw⟩ L:=JcE ((Vq hlt j).trans hM) hc hl h
theorem Jo7{j off:Nat}{cs:List AV}{u:AV}(hlt:n<H.length)(hM:M[j]? = some (.cells cs))(hu:cs[off]? = some u)(h:L u):LdAt none (.ptr (H.length+j) off) ⟨hp H n b M,rw⟩ L:=Jlt ((Vq hlt j).trans hM) hu h
theorem J17{off:Nat}{cs:List AV}{u:AV}(hlt:n<H.length)(hb:b=.cells cs)(hu:cs[off]? = some u)(h:L u):LdAt none (.ptr n off) ⟨hp H n b M,rw⟩ L:=Jlt ((Kh hlt).trans (by rw[hb])) hu h
variable {S:St}
theorem JGf{kd:Nat}{u:List AV}(hu:Row kd u)(h:L (.agg u)):LdAt (some kd) (.ref u) S L:=JtB (by rw[hu.len];exact Ao _) (AB (by rw[hu.len];exact Ao _)) h
theorem Z2{kd:Nat}{u:List AV}(hu:Row kd u)(h:L (.list kd .full [u])):LsAt kd [.agg u] L:=⟨_,hu.rows1,h⟩
theorem JTs{kd:Nat}{u v:List AV}(hu:Row kd u)(hv:Row kd v)(h:L (.list kd .full [u,v])):LsAt kd [.agg u,.agg v] L:=⟨_,hu.rows2 hv,h⟩
theorem JfJ{sz:Nat}{vs:List AV}{rows:List (List AV)}(hr:Yx sz vs=some rows)(h:L (.list sz .full rows)):LsAt sz vs L:=⟨_,hr,h⟩
end
theorem JcI{kd j off:Nat}{v:AV}{K:St->Prop}(h:StAt b0 kd (.ptr (H.length+j) off) v ⟨hp H n b M,rw⟩ K):StAt b0 kd (.ptr (H.length+j) off) v ⟨hp H n b M,rw⟩ K:=h
theorem Jaz{kd:Nat}(off:Nat){v:AV}{K:St->Prop}(h:StAt b0 kd (.ptr n off) v ⟨hp H n b M,rw⟩ K):StAt b0 kd (.ptr n off) v ⟨hp H n b M,rw⟩ K:=h
theorem JbI{m j:Nat}{L:AV->Prop}(h:LdAt (some m) (.ptr (H.length+j) 0) ⟨hp H n b M,rw⟩ L):LdAt (some m) (.ptr (H.length+j) 0) ⟨hp H n b M,rw⟩ L:=h
theorem JaA{j off:Nat}{L:AV->Prop}(h:LdAt none (.ptr (H.length+j) off) ⟨hp H n b M,rw⟩ L):LdAt none (.ptr (H.length+j) off) ⟨hp H n b M,rw⟩ L:=h
theorem Jd7{off:Nat}{L:AV->Prop}(h:LdAt none (.ptr n off) ⟨hp H n b M,rw⟩ L):LdAt none (.ptr n off) ⟨hp H n b M,rw⟩ L:=h
section
variable {e:KC} {re:List Nat} {H0:List Blk}
theorem Jo8:J8 [] re e H0 base=true:=rfl
theorem JlF{it:Item}(h:re.contains it.ix=false)(hr:J8 prev re e H0 base=true):J8 (it::prev) re e H0 base=true:=by simp only[J8,B1,h,Bool.not_false,Df,BW]at hr |-;exact hr
theorem Jdi{dd:Nat}{o:QOp}{v:AV}(hw:wanted g (Jj e)=some true)(hv:QY o (Jj e) H0 base=some v)(hd:Jj e dd=some v)(hr:J8 prev re e H0 base=true):J8 (⟨ix,some dd,g,.q o⟩::prev) re e H0 base=true:=by simp only[J8,B1]at hr |-;rw[hr];simp only[hw,hv,hd,Jcr,Bool.or_true,CI]
theorem JbJ{dd:Nat}{o:QOp}(hw:wanted g (Jj e)=some false)(hr:J8 prev re e H0 base=true):J8 (⟨ix,some dd,g,.q o⟩::prev) re e H0 base=true:=by simp only[J8,B1]at hr |-;rw[hr];simp only[hw,Bool.or_true,CI]
theorem JlG{dd:Nat}{kd:Option Nat}{x:Opd}{p v:AV}{rw:List Nat}(hw:wanted g (Jj e)=some true)(hx:x.val (Jj e)=some p)(hd:Jj e dd=some v)(h:LdAt kd p ⟨H0,rw⟩ (λu=>u=v))(hr:J8 prev re e H0 base=true):J8 (⟨ix,some dd,g,.q (.load kd x)⟩::prev) re e H0 base=true:=by obtain⟨u,hu,rfl⟩:=h;exact Jdi hw (by simp only[QY,hx];exact hu) hd hr
theorem JfK{dd:Nat}{zero:AV}{ok:Bool}{x y:Opd}{p q v:AV}{rw:List Nat}(hw:wanted g (Jj e)=some true)(hx:x.val (Jj e)=some p)(hy:y.val (Jj e)=some q)(hd:Jj e dd=some v)(h:LkAt zero ok p q ⟨H0,rw⟩ (λu=>u=v))(hr:J8 prev re e H0 base=true):J8 (⟨ix,some dd,g,.q (.lookup zero ok x y)⟩::prev) re e H0 base=true:=by obtain⟨u,hu,rfl⟩:=h;refine Jdi hw ?_ hd hr;simp only[QY,hx,hy];cases p <;> cases q <;> first |exact hu |(exact absurd hu Ag)
theorem D7{Q:Prop}(h:Q:=by have:=Jcr (.agg zs);simpa only[AV.beq] using this):Q:=h
theorem JfL{dd j L q:Nat}{zs:List AV}(hlt:n<H.length)(hw:wanted g (Jj e)=some true)(hq:L+j=q)(hM:M[q]? = some (.cells zs))(hd:Jj e dd=some (.ptr (H.length+q) 0))(hr:J8 prev re e (hp H n b M) (H.length+L)=true) :
  J8 (⟨ix,some dd,g,.q (.alloc j zs)⟩::prev) re e (hp H n b M) (H.length+L)=true:=by
 subst hq;refine Jdi hw ?_ hd hr;have h2:=(Vq (b:=b) (L:=M) hlt (L+j)).trans hM;have hb:AV.beqL zs zs=true:=D7
 simp only[QY,D0,h2,hb,if_true]
theorem JfM{dd:Nat}{kd:Option Nat}{x:Opd}(h:J8 (⟨ix,some dd,g,.q (.load kd x)⟩::prev) re e H0 base=true):J8 (⟨ix,some dd,g,.q (.load kd x)⟩::prev) re e H0 base=true:=h
theorem JlH{dd:Nat}{zero:AV}{ok:Bool}{x y:Opd}(h:J8 (⟨ix,some dd,g,.q (.lookup zero ok x y)⟩::prev) re e H0 base=true):J8 (⟨ix,some dd,g,.q (.lookup zero ok x y)⟩::prev) re e H0 base=true:=h
theorem Jd8{dd j:Nat}{zs:List AV}(h:J8 (⟨ix,some dd,g,.q (.alloc j zs)⟩::prev) re e H0 base=true):J8 (⟨ix,some dd,g,.q (.alloc j zs)⟩::prev) re e H0 base=true:=h
end
theorem Yf{x:Blk}{J:List Blk}:((J++[x]))[J.length]? = some x:=Ag
theorem Jhr{x y:Blk}{J:List Blk}:((J++[x])).set (J.length) y=(J++[y]):=Ag
theorem Zx{x y:Blk}{J:List Blk}:((J++[x]++[y]))[J.length]? = some x:=Ag
theorem Jhs{x y z:Blk}{J:List Blk}:((J++[x]++[y])).set (J.length) z=(J++[z]++[y]):=Ag
theorem Yg{a x:Blk}{J:List Blk}:(a::(J++[x]))[J.length+1]? = some x:=Ag
theorem Jht{a x y:Blk}{J:List Blk}:(a::(J++[x])).set (J.length+1) y=a::(J++[y]):=Ag
theorem Zy{a x y:Blk}{J:List Blk}:(a::(J++[x]++[y]))[J.length+1]? = some x:=Ag
theorem Jhu{a x y z:Blk}{J:List Blk}:(a::(J++[x]++[y])).set (J.length+1) z=a::(J++[z]++[y]):=Ag
theorem Zz{a b x:Blk}{J:List Blk}:(a::b::(J++[x]))[J.length+1+1]? = some x:=Ag
theorem Jhv{a b x y:Blk}{J:List Blk}:(a::b::(J++[x])).set (J.length+1+1) y=a::b::(J++[y]):=Ag
theorem ZA{a b x y:Blk}{J:List Blk}:(a::b::(J++[x]++[y]))[J.length+1+1]? = some x:=Ag
theorem Jhw{a b x y z:Blk}{J:List Blk}:(a::b::(J++[x]++[y])).set (J.length+1+1) z=a::b::(J++[z]++[y]):=Ag
theorem ZB{a b c x:Blk}{J:List Blk}:(a::b::c::(J++[x]))[J.length+1+1+1]? = some x:=Ag
theorem Jhx{a b c x y:Blk}{J:List Blk}:(a::b::c::(J++[x])).set (J.length+1+1+1) y=a::b::c::(J++[y]):=Ag
theorem ZC{a b c x y:Blk}{J:List Blk}:(a::b::c::(J++[x]++[y]))[J.length+1+1+1]? = some x:=Ag
theorem Jhy{a b c x y z:Blk}{J:List Blk}:(a::b::c::(J++[x]++[y])).set (J.length+1+1+1) z=a::b::c::(J++[z]++[y]):=Ag
theorem ZD{a b c d x:Blk}{J:List Blk}:(a::b::c::d::(J++[x]))[J.length+1+1+1+1]? = some x:=Ag
theorem Jhz{a b c d x y:Blk}{J:List Blk}:(a::b::c::d::(J++[x])).set (J.length+1+1+1+1) y=a::b::c::d::(J++[y]):=Ag
theorem ZE{a b c d x y:Blk}{J:List Blk}:(a::b::c::d::(J++[x]++[y]))[J.length+1+1+1+1]? = some x:=Ag
theorem JhA{a b c d x y z:Blk}{J:List Blk}:(a::b::c::d::(J++[x]++[y])).set (J.length+1+1+1+1) z=a::b::c::d::(J++[z]++[y]):=Ag
section
variable {L:AV->Prop} {K:St->Prop} {S:St} {e:KC} {re:List Nat} {H0:List Blk}
theorem zar(hm:Yy pr){al:List (List AV)}{q:Nat}(h:In pr F b0 Q (H.length+q) [] items kp k e ⟨hp H n b M',rw⟩)(hlt:n<H.length:=by assumption)(hM:M++al.map .cells=M':=by(simp only[Ap,AC,Au,Aw,Ar];rfl))(hL:M.length=q:=by(first |(simp only[Ad,Af,Nat.reduceAdd,AF];rfl) |rfl)):At pr F b0 Q (.region al items kp) k e ⟨hp H n b M,rw⟩:=Jxa hm hlt hM hL h
theorem zaa{j q q':Nat}{zs:List AV}(h:In pr F b0 Q (H.length+q') (⟨ix,d,g,.q (.alloc j zs)⟩::prev) items kp k (KD e d (.ptr (H.length+q) 0)) ⟨hp H n b M,rw⟩)(hlt:n<H.length:=by assumption)(hw:wanted g (Jj e)=some true:=by rfl)(hq:q'+j=q:=by(simp only[Nat.reduceAdd,AE];try rfl))(hM:M[q]? = some (.cells zs):=by(first |rfl |assumption |exact Yf |exact Yg |exact Zz |exact ZB |exact ZD |exact Zx |exact Zy |exact ZA |exact ZC |exact ZE)) :
  In pr F b0 Q (H.length+q') prev (⟨ix,d,g,.q (.alloc j zs)⟩::items) kp k e ⟨hp H n b M,rw⟩:=Jsi hlt hw hq hM h
theorem zlr{kd:Nat}{u:List AV}(h:L (.agg u))(hu:Row kd u:=by(first |assumption |with_reducible exact JG _ |with_reducible exact VQ _ |with_reducible exact K9 _ |with_reducible exact Kx _ |with_reducible exact Vs _ |with_reducible exact QE _ |with_reducible exact Qa _ |with_reducible exact QL _ |with_reducible exact KT _ |with_reducible exact QM _ |with_reducible exact Xy _)):LdAt (some kd) (.ref u) S L:=JGf hu h
theorem zls{kd:Nat}{u v:List AV}(h:L (.agg v))(hl:kd<=u.length:=by first |assumption |exact Ba rfl)(hv:u.take kd=v:=by rfl):LdAt (some kd) (.ref u) S L:=JtB hl hv h
theorem zlo{kd j:Nat}{vs:List AV}(h:L (.agg vs))(hlt:n<H.length:=by assumption)(hM:M[j]? = some (.cells vs):=by(first |rfl |assumption |exact Yf |exact Yg |exact Zz |exact ZB |exact ZD |exact Zx |exact Zy |exact ZA |exact ZC |exact ZE))(hv:Row kd vs:=by(first |assumption |with_reducible exact JG _ |with_reducible exact VQ _ |with_reducible exact K9 _ |with_reducible exact Kx _ |with_reducible exact Vs _ |with_reducible exact QE _ |with_reducible exact Qa _ |with_reducible exact QL _ |with_reducible exact KT _ |with_reducible exact QM _ |with_reducible exact Xy _)):LdAt (some kd) (.ptr (H.length+j) 0) ⟨hp H n b M,rw⟩ L:=Jd6 hlt hM hv h
theorem Jo9{kd j:Nat}{cs vs:List AV}(h:L (.agg vs))(hlt:n<H.length:=by assumption)(hM:M[j]? = some (.cells cs):=by(first |rfl |assumption |exact Yf |exact Yg |exact Zz |exact ZB |exact ZD |exact Zx |exact Zy |exact ZA |exact ZC |exact ZE))(hc:Jh cs=vs:=by assumption)(hl:cs.length=kd:=by assumption):LdAt (some kd) (.ptr (H.length+j) 0) ⟨hp H n b M,rw⟩ L:=Jo6 hlt hM hc hl h
theorem Jpa{kd j:Nat}{cs vs:List AV}(h:L (.agg vs))(hlt:n<H.length:=by assumption)(hM:M[j]? = some (.cells cs):=by(first |rfl |assumption |exact Yf |exact Yg |exact Zz |exact ZB |exact ZD |exact Zx |exact Zy |exact ZA |exact ZC |exact ZE))(hc:Jh cs=vs:=by rfl)(hl:cs.length=kd:=by rfl):LdAt (some kd) (.ptr (H.length+j) 0) ⟨hp H n b M,rw⟩ L:=Jo6 hlt hM hc hl h
theorem Jnf{j off:Nat}{cs:List AV}{u:AV}(h:L u)(hlt:n<H.length:=by assumption)(hM:M[j]? = some (.cells cs):=by(first |rfl |assumption |exact Yf |exact Yg |exact Zz |exact ZB |exact ZD |exact Zx |exact Zy |exact ZA |exact ZC |exact ZE))(hu:cs[off]? = some u:=by rfl):LdAt none (.ptr (H.length+j) off) ⟨hp H n b M,rw⟩ L:=Jo7 hlt hM hu h
theorem Jpb{off:Nat}{cs:List AV}{u:AV}(h:L u)(hlt:n<H.length:=by assumption)(hb:b=.cells cs:=by rfl)(hu:cs[off]? = some u:=by rfl):LdAt none (.ptr n off) ⟨hp H n b M,rw⟩ L:=J17 hlt hb hu h
theorem Jpc{m off:Nat}{cs:List AV}{u:AV}(h:L u)(hH:S.heap[m]? = some (.cells cs):=by assumption)(hu:cs[off]? = some u:=by rfl):LdAt none (.ptr m off) S L:=Jlt hH hu h
theorem Jpd{m kd:Nat}{cs vs:List AV}(h:L (.agg vs))(hH:S.heap[m]? = some (.cells cs):=by assumption)(hc:Jh cs=vs:=by rfl)(hl:cs.length=kd:=by rfl):LdAt (some kd) (.ptr m 0) S L:=JcE hH hc hl h
theorem ze1{kd:Nat}{u:List AV}(h:L (.list kd .full [u]))(hu:Row kd u:=by(first |assumption |with_reducible exact JG _ |with_reducible exact VQ _ |with_reducible exact K9 _ |with_reducible exact Kx _ |with_reducible exact Vs _ |with_reducible exact QE _ |with_reducible exact Qa _ |with_reducible exact QL _ |with_reducible exact KT _ |with_reducible exact QM _ |with_reducible exact Xy _)):LsAt kd [.agg u] L:=Z2 hu h
theorem ze2{kd:Nat}{u v:List AV}(h:L (.list kd .full [u,v]))(hu:Row kd u:=by(first |assumption |with_reducible exact JG _ |with_reducible exact VQ _ |with_reducible exact K9 _ |with_reducible exact Kx _ |with_reducible exact Vs _ |with_reducible exact QE _ |with_reducible exact Qa _ |with_reducible exact QL _ |with_reducible exact KT _ |with_reducible exact QM _ |with_reducible exact Xy _))(hv:Row kd v:=by(first |assumption |with_reducible exact JG _ |with_reducible exact VQ _ |with_reducible exact K9 _ |with_reducible exact Kx _ |with_reducible exact Vs _ |with_reducible exact QE _ |with_reducible exact Qa _ |with_reducible exact QL _ |with_reducible exact KT _ |with_reducible exact QM _ |with_reducible exact Xy _)):LsAt kd [.agg u,.agg v] L:=JTs hu hv h
theorem Av{Q:Prop}(h:Q:=by(first |assumption |with_reducible exact JG _ |with_reducible exact VQ _ |with_reducible exact K9 _ |with_reducible exact Kx _ |with_reducible exact Vs _ |with_reducible exact QE _ |with_reducible exact Qa _ |with_reducible exact QL _ |with_reducible exact KT _ |with_reducible exact QM _ |with_reducible exact Xy _)):Q:=h
theorem zsR{kd j:Nat}{vs cs:List AV}(h:K ⟨hp H n b M',rw⟩)(hlt:n<H.length:=by assumption)(hM:M[j]? = some (.cells cs):=by(first |rfl |assumption |exact Yf |exact Yg |exact Zz |exact ZB |exact ZD |exact Zx |exact Zy |exact ZA |exact ZC |exact ZE))(hv:Row kd vs:=by(first |assumption |with_reducible exact JG _ |with_reducible exact VQ _ |with_reducible exact K9 _ |with_reducible exact Kx _ |with_reducible exact Vs _ |with_reducible exact QE _ |with_reducible exact Qa _ |with_reducible exact QL _ |with_reducible exact KT _ |with_reducible exact QM _ |with_reducible exact Xy _))(hc:cs.length=kd:=by first |rfl |exact Row.len Av |assumption)(hs:M.set j (.cells vs)=M':=by(first |exact Jhr |exact Jht |exact Jhv |exact Jhx |exact Jhz |exact Jhs |exact Jhu |exact Jhw |exact Jhy |exact JhA |(simp only[Cw,Cy];rfl))) :
  StAt b0 kd (.ptr (H.length+j) 0) (.agg vs) ⟨hp H n b M,rw⟩ K:=JGe hlt hM hc hv hs h
theorem zsA{kd j:Nat}{vs cs:List AV}(h:K ⟨hp H n b M',rw⟩)(hlt:n<H.length:=by assumption)(hM:M[j]? = some (.cells cs):=by(first |rfl |assumption |exact Yf |exact Yg |exact Zz |exact ZB |exact ZD |exact Zx |exact Zy |exact ZA |exact ZC |exact ZE))(hv:vs.length=kd:=by rfl)(hc:cs.length=kd:=by first |rfl |exact Row.len Av |assumption)(hs:M.set j (.cells vs)=M':=by(first |exact Jhr |exact Jht |exact Jhv |exact Jhx |exact Jhz |exact Jhs |exact Jhu |exact Jhw |exact Jhy |exact JhA |(simp only[Cw,Cy];rfl)))(hb:b0<=H.length+j\/Ai.below (H.length+j+1) (.agg vs)=true:=by first |exact .inl (DE _ _) |exact .inr rfl |exact .inl (Ao _) |exact .inr (LT.below _ _) |exact .inr (Row.below Av _) |(left;omega)) :
  StAt b0 kd (.ptr (H.length+j) 0) (.agg vs) ⟨hp H n b M,rw⟩ K:=JtH hlt hb hM hc hv hs h
theorem zsO{kd j off:Nat}{v:AV}{cs cs':List AV}(h:K ⟨hp H n b M',rw⟩)(hlt:n<H.length:=by assumption)(hM:M[j]? = some (.cells cs):=by(first |rfl |assumption |exact Yf |exact Yg |exact Zz |exact ZB |exact ZD |exact Zx |exact Zy |exact ZA |exact ZC |exact ZE))(hv:v.cells.length=kd/\v.okv=true/\off+kd<=cs.length:=by first |exact⟨rfl,rfl,Ba rfl⟩ |exact⟨by rw[LT.one];rfl,LT.okv _,Ba rfl⟩ |exact⟨Row.len Av,rfl,Ba rfl⟩)
  (hc:overlay cs off v.cells=cs':=by(simp only[overlay,JH,JI,JJ,Jv,Jx,JL,LT.one,JfI,Jkn,Jko,Ay,AL,Az,AA,Au,Aw,Ad,Af,Nat.reduceAdd,AF,AE];rfl)) (hs:M.set j (.cells cs')=M':=by(first |exact Jhr |exact Jht |exact Jhv |exact Jhx |exact Jhz |exact Jhs |exact Jhu |exact Jhw |exact Jhy |exact JhA |(simp only[Cw,Cy];rfl))) (hb:b0<=H.length+j\/Ai.below (H.length+j+1) v=true:=by first |exact .inl (DE _ _) |exact .inr rfl |exact .inl (Ao _) |exact .inr (LT.below _ _) |exact .inr (Row.below Av _) |(left;omega)):StAt b0 kd (.ptr (H.length+j) off) v ⟨hp H n b M,rw⟩ K:=Jqx hlt hb hM hv hc hs h
end
section
variable {e:KC} {re:List Nat} {H0:List Blk}
theorem Cs{Q:Prop}(h:Q:=by(simp only[Nat.reduceAdd,AE];try rfl)):Q:=h
theorem Bq{Q:Prop}(h:Q:=by(first |rfl |assumption |exact Yf |exact Yg |exact Zz |exact ZB |exact ZD |exact Zx |exact Zy |exact ZA |exact ZC |exact ZE)):Q:=h
theorem K7{X:Prop}(hx:X)(h:J8 prev re e H0 base=true:=by first |exact XQ |(repeat' first |with_reducible exact Jo8 |refine JlF rfl ?_ |(refine JfM ?_;first |refine JbJ rfl ?_ |refine JlG (rw:=[]) rfl rfl rfl ?_ ?_) |(refine Jd8 ?_;refine JfL Aa rfl Cs Bq rfl ?_) |(refine JlH ?_;first |refine JbJ rfl ?_ |refine JfK (rw:=[]) rfl rfl rfl rfl ?_ ?_) |refine JbJ rfl ?_ |refine Jdi rfl rfl rfl ?_ |(refine Jd0 rfl ?_)      |(refine JbG ?_;first |refine zlr ?_ |refine zls ?_)      |(refine JbI ?_;first |refine zlo ?_ |refine Jo9 ?_ |refine Jpa ?_)      |(refine JaA ?_;first |refine Jnf ?_ |refine Jpq ?_)      |(refine Jd7 ?_;refine Jpb ?_)      |(refine Jax ?_;first |refine Jpc ?_ |refine Jpp ?_)      |(refine JbH ?_;first |refine Jpd ?_ |refine Jpr ?_) |rfl)):J8 prev re e H0 base=true/\X:=⟨h,hx⟩
end
theorem J0{t j:Nat}{kd:Option Nat}{cs:List AV}{v:AV}{Q:Res->St->Prop}(hlt:n<H.length)(ht:Jj e t=some (.ptr (H.length+j) 0))(hM:M[j]? = some (.cells cs))(hv:J9 kd (.ptr 0 0) [.cells cs]=some v)(hb:Ai.below H.length v=true)
  (h:Q (.ret v) ⟨hp H n b [],rw⟩):fin [.cell t kd] H.length Q .ret e ⟨hp H n b M,rw⟩:=by
 refine Js ?_ hb (JR hlt) h;have h2:=(Vq (b:=b) (L:=M) hlt j).trans hM;have h3:J9 kd (.ptr (H.length+j) 0) (hp H n b M)=some v:=by simp only[J9,h2];simp only[J9,Am]at hv;exact hv
 simp only[QT,ht,h3]
variable {b0:Nat} {S:St}
theorem JeX{kd q:Nat}{cs:List AV}{K:St->Prop}(h:StAt b0 kd (.ptr q 0) (.agg cs) S K):StAt b0 kd (.ptr q 0) (.agg cs) S K:=h
variable {H:List Blk} {rw:List Nat} {n:Nat} {b:Blk} {M M':List Blk} {K:St->Prop}
theorem zsT{kd j off:Nat}{vs cs cs':List AV}(h:K ⟨hp H n b M',rw⟩)(hlt:n<H.length:=by assumption)(hM:M[j]? = some (.cells cs):=by(first |rfl |assumption |exact Yf |exact Yg |exact Zz |exact ZB |exact ZD |exact Zx |exact Zy |exact ZA |exact ZC |exact ZE))(hv:Row kd vs:=by(first |assumption |with_reducible exact JG _ |with_reducible exact VQ _ |with_reducible exact K9 _ |with_reducible exact Kx _ |with_reducible exact Vs _ |with_reducible exact QE _ |with_reducible exact Qa _ |with_reducible exact QL _ |with_reducible exact KT _ |with_reducible exact QM _ |with_reducible exact Xy _))(ho:off+kd<=cs.length:=by exact Ba rfl)
  (hc:overlay cs off vs=cs':=by(simp only[overlay,JH,JI,JJ,Jv,Jx,JL,LT.one,JfI,Jkn,Jko,Ay,AL,Az,AA,Au,Aw,Ad,Af,Nat.reduceAdd,AF,AE];rfl)) (hs:M.set j (.cells cs')=M':=by(first |exact Jhr |exact Jht |exact Jhv |exact Jhx |exact Jhz |exact Jhs |exact Jhu |exact Jhw |exact Jhy |exact JhA |(simp only[Cw,Cy];rfl))):StAt b0 kd (.ptr (H.length+j) off) (.agg vs) ⟨hp H n b M,rw⟩ K:=Jqx hlt (.inr (hv.below _)) hM ⟨hv.len,rfl,ho⟩ hc hs h
theorem Jr(t:Ty):List.map canon1 (Jl t)=Jl t:=(K9 t).can
theorem Bt{Q:Prop}(h:Q:=by first |exact XQ |rfl):Q:=h
theorem D8{Q:Prop}(h:Q:=by first |with_reducible rfl |assumption |(simp only[decide_eq_true_eq,beq_iff_eq,bne_iff_ne,ne_eq,Bb,beq_eq_false_iff_ne,Ak];first |done |omega |assumption)):Q:=h
theorem D9{Q:Prop}(h:Q:=by first |with_reducible rfl |assumption |(simp only[decide_eq_false_iff_not,beq_eq_false_iff_ne,bne_eq_false_iff_eq,ne_eq,CA,beq_iff_eq,Ak];first |done |omega |assumption)):Q:=h
theorem Ed{Q:Prop}(h:Q:=by first |assumption |exact hk1 _ _ |exact hd1 _ |exact hd2 _ |exact hd3 _ |exact hd4 _ |exact hd5 _ |exact hd6 _):Q:=h
theorem hG{Q:Prop}(h:Q:=by(repeat' (first |(refine Jm3 ?_;first  |(refine Jlw ?_;first |refine Jqp rfl rfl ?_ |refine VN rfl ?_)  |(refine Jlx ?_;first    |(refine Jqq rfl rfl rfl ?_;first      |(refine Jd1 .add ?_;first |refine Jqt O ?_ |refine Jqs rfl ?_)      |(refine JgE .add ?_;first |refine YX rfl (JbE O O) ?_ |refine YX rfl rfl ?_)      |(refine JgE .sub ?_;first |refine YX rfl (JbE O O) ?_ |refine YX rfl rfl ?_)      |refine Jls rfl D8 ?_      |refine Jho rfl D9 ?_      |(refine Jqr rfl (λhq=>?_) (λhq=>?_) <;>(try simp only[decide_eq_true_eq,decide_eq_false_iff_not,beq_iff_eq,beq_eq_false_iff_ne,bne_iff_ne,ne_eq,bne_eq_false_iff_eq,Bb,DT,DU,Dc,Ak]at hq))      |refine YX rfl rfl ?_)    |refine VN rfl ?_)  |(refine YL ?_;first    |(refine XP rfl rfl ?_;first      |(refine Jd0 rfl ?_)      |(refine JbG ?_;first |refine zlr ?_ |refine zls ?_)      |(refine JbI ?_;first |refine zlo ?_ |refine Jo9 ?_ |refine Jpa ?_)      |(refine JaA ?_;first |refine Jnf ?_ |refine Jpq ?_)      |(refine Jd7 ?_;refine Jpb ?_)      |(refine Jax ?_;first |refine Jpc ?_ |refine Jpp ?_)      |(refine JbH ?_;first |refine Jpd ?_ |refine Jpr ?_))    |refine VN rfl ?_)  |(refine Jbh ?_;refine zaa ?_)  |(refine Jly ?_;first    |(refine Jkj rfl rfl rfl ?_;first      |(refine JqU O O ?_;intro tk htk htk2)      |refine JaZ Aa O ?_      |refine JaZ rfl rfl ?_      |refine Jkk O O ?_)    |refine VN rfl ?_)  |(refine Jqu ?_;first    |refine JcC rfl rfl rfl B8 Aa ?_    |refine Jdf Aa rfl rfl rfl O ?_    |refine VN rfl ?_)  |(refine Qp ?_;first    |(refine Q1 rfl rfl ?_;first      |(refine Jlu ?_;first |refine ze1 ?_ |refine JfJ rfl ?_)      |(refine Jlv ?_;first |refine ze2 ?_ |refine JfJ rfl ?_)      |refine JfJ rfl ?_)    |refine VN rfl ?_)  |(refine Jlz ?_;first    |refine Jiy rfl rfl rfl rfl BH rfl ?_    |refine VN rfl ?_)  |(refine JlQ ?_;refine Je4 rfl rfl ?_)  |(refine JwU ?_;first |refine g_q rfl rfl ?_ |refine VN rfl ?_)  |(refine Vh ?_;first    |(refine VG rfl rfl rfl ?_;first      |(refine Jaz (0+1) ?_;refine Jyi hlt Aa O ?_;intro rc _ _ _ _ _ _;refine K7 ?_)      |(refine Jaz (0+3) ?_;refine JhB hlt Aa O ?_;intro rc _ _ _ _ _ _;refine K7 ?_)      |(refine JcI ?_;first        |(refine JeX ?_;first          |(refine zsR ?_;refine K7 ?_)          |(refine zsA ?_;refine K7 ?_)) |(refine JeS ?_;refine zsT ?_;refine K7 ?_)        |(refine zsO ?_;refine K7 ?_)))    |refine Yo rfl Bt ?_)  |(refine Jhp ?_;first    |(refine Je rfl rfl rfl ?_;first      |(refine Z1 90 (.int .i64 0) ?_;(refine Jcb (cis0 _) hlt Aa ?_ ?_ <;> intro hP <;> obtain⟨_,_⟩:=hP <;> refine K7 ?_)) |(refine Z1 90 (.int .i64 1) ?_;(refine Jcb (cis1 _) hlt Aa ?_ ?_ <;> intro hP <;> obtain⟨_,_⟩:=hP <;> refine K7 ?_)) |(refine Z1 90 (.int .i64 2) ?_;(refine Jcb (cis2 _) hlt Aa ?_ ?_ <;> intro hP <;> obtain⟨_,_⟩:=hP <;> refine K7 ?_))      |(refine Ye 134 ?_;refine Jhc cpl hlt Aa ?_;intro _ _;refine K7 ?_)      |(refine Ye 136 ?_;(refine JgL (ctk _) hlt Aa O O ?_ ?_ <;> intro rc rwc hR' _ _ _ _ _ _ hP <;> replace hR:=hR.trans hR' <;>(try replace hRL:=hRL.trans hR') <;> obtain⟨_,_⟩:=hP <;> refine K7 ?_)) |(refine Ye 140 ?_;(refine JgL (cen) hlt Aa O O ?_ ?_ <;> intro rc rwc hR' _ _ _ _ _ _ hP <;> replace hR:=hR.trans hR' <;>(try replace hRL:=hRL.trans hR') <;> obtain⟨_,_⟩:=hP <;> refine K7 ?_)) |(refine Ye 93 ?_;(refine KU (cnd _) hlt Aa O O ?_;intro _ rc rwc hR' _ _ _ _ _ _ hP;replace hR:=hR.trans hR';(try replace hRL:=hRL.trans hR');obtain⟨_,_⟩:=hP;refine K7 ?_)) |(refine Ye 95 ?_;(refine KU (cfl) hlt Aa O O ?_;intro _ rc rwc hR' _ _ _ _ _ _ hP;replace hR:=hR.trans hR';(try replace hRL:=hRL.trans hR');obtain⟨_,_⟩:=hP;refine K7 ?_))      |(refine Ks Ed ?_;refine K7 ?_))    |refine Yo rfl Bt ?_)  |(refine JwV ?_;refine Yo rfl Bt ?_)  |(refine JlA ?_;refine Jix AK ?_)) |(refine Jm4 ?_;first  |refine Kt hm ?_  |(refine Jdg ?_;first |refine zar hm ?_ |refine Xe hm (Ar _) rfl ?_)  |(refine Jhq ?_;first |refine Jde rfl ?_ |refine Jbe rfl ?_)  |refine Jcz ?_  |refine JeO ?_  |refine Jiw ?_  |refine JeP ?_) |(refine JeQ ?_;first  |refine Jbf ?_  |refine JcA ?_  |refine YE ?_  |refine Y8 ?_  |refine Yc ?_  |refine Yd ?_  |refine XV O ?_  |refine JcB ?_)));all_goals(refine ob ?_;apply_rules (newGoals:=.nonDependentOnly) only[bx];exact trivial)):Q:=h
structure Rd where
 i:Int
 deep:Int
 code:Int
 at_:Int
structure Src where
 toks:List Tok
 sz:Nat
 tag:Tag
 en:Int
 hsz:toks≠[]->sz=3
 small:toks.length<=8000
 txt:∀ t∈toks,Jnb t
def blk(s:Src)(r:Rd):Blk:=.cells [.list s.sz s.tag (s.toks.map Tok.row),.int .i64 r.i,.int .i64 s.en,.int .i64 r.deep,.int .i64 r.code,.int .i64 r.at_]
structure Rok(s:Src)(r:Rd):Prop where
 lo:0<=r.i
 hi:r.i<=s.toks.length
 dlo:0<=r.deep
 dhi:r.deep<=1000
structure LibR(pr:Jz)(F:Nat->Option IFn):Prop extends LibL pr F where
 f90:QG pr F 90 i90
 f93:QG pr F 93 i93
 f95:QG pr F 95 i95
 f134:QG pr F 134 Jw0
 f135:QG pr F 135 Jw1
 f136:QG pr F 136 Jw2
 f140:QG pr F 140 Jw4
def isF(s:Src)(r:Rd)(k:Nat)(x:Jk):Bool:=r.code == 0 && match s.toks[r.i.toNat+k]? with |some t=>t.kind != 2 && t.text == x |none=>false
theorem Jpe(L:LibR pr F){S:St}{n:Nat}{s:Src}{r:Rd}(hn:S.heap[n]? = some (blk s r))(hr:Rok s r)(k:Nat)(hk:k<=5)(x:Jk) :
  Det pr F 90 [.ptr n 0,.int .i64 k,.str x] S (.ret (.bool (isF s r k x))) S:=by
 have hm:=L.hm;refine Det.of hm (Jt hm L.f90.1 L.f90.2 rfl ?_);obtain⟨H,rws⟩:=S;obtain⟨i,deep,code,at_⟩:=r;obtain⟨lo,hi,dlo,dhi⟩:=hr;simp only[blk]at hn lo hi dlo dhi;obtain⟨j,rfl⟩:=CB lo;have small:=s.small;unfold isF;by_cases h1:code=0
 ·subst h1;by_cases h2:j+k<s.toks.length
  ·have e1:s.toks[j+k]? = some s.toks[j+k]:=Ab h2;have e2:(s.toks.map Tok.row)[j+k]? = some (Tok.row s.toks[j+k]):=by rw[Ax,e1];rfl
   have hsz:=s.hsz (by intro h;rw[h]at h2;simp at h2);rw[hsz]at hn;by_cases h3:s.toks[j+k].kind=2
   ·refine' VO;refine Js rfl rfl (AI) ⟨?_,rfl⟩;simp[e1,h3]
   ·by_cases h4:s.toks[j+k].text=x
    ·refine' VO;refine Js rfl rfl (AI) ⟨?_,rfl⟩;simp[e1,h3,h4]
    ·refine' VO;refine Js rfl rfl (AI) ⟨?_,rfl⟩;simp[e1,h3,h4]
  ·have e1:s.toks[j+k]? = none:=A5 O;refine' VO;refine Js rfl rfl (AI) ⟨?_,rfl⟩;simp[e1]
 ·refine' VO;refine Js rfl rfl (AI) ⟨?_,rfl⟩;simp[h1]
theorem JcJ{H:List Blk}{n:Nat}{b:Blk}(h:n<H.length):(H.set n b)[n]? = some b:=A3 h
theorem JiB{H:List Blk}{n:Nat}{b:Blk}(h:H[n]? = some b):H.set n b=H:=by rw[<- Jo1];exact(Xi h).symm
def Z3(s:Src)(r:Rd):Int:=match s.toks[r.i.toNat]? with |some t=>t.at_ |none=>s.en
theorem Jkp(L:LibR pr F){S:St}{n:Nat}{s:Src}{r:Rd}(hn:S.heap[n]? = some (blk s r))(hr:Rok s r) :
  Det pr F 134 [.ptr n 0] S (.ret (.int .i64 (Z3 s r))) S:=by
 have hm:=L.hm;refine Det.of hm (Jt hm L.f134.1 L.f134.2 rfl ?_);obtain⟨H,rws⟩:=S;obtain⟨i,deep,code,at_⟩:=r;obtain⟨lo,hi,dlo,dhi⟩:=hr;simp only[blk]at hn lo hi dlo dhi;obtain⟨j,rfl⟩:=CB lo;have small:=s.small;unfold Z3;by_cases h2:j<s.toks.length
 ·have e1:s.toks[j]? = some s.toks[j]:=Ab h2;have e2:(s.toks.map Tok.row)[j]? = some (Tok.row s.toks[j]):=by rw[Ax,e1];rfl
  have hsz:=s.hsz (by intro h;rw[h]at h2;simp at h2);rw[hsz]at hn;refine' VO;refine Js rfl rfl (AI) ⟨?_,rfl⟩;simp[e1]
 ·have e1:s.toks[j]? = none:=A5 O;refine' VO;refine Js rfl rfl (AI) ⟨?_,rfl⟩;simp[e1]
def Xq(s:Src)(r:Rd)(c:Int):Rd:=if r.code=0 then{r with code:=c,at_:=Z3 s r} else r
theorem Rok.fail{s:Src}{r:Rd}(h:Rok s r)(c:Int):Rok s (Xq s r c):=by
 unfold Xq;split
 ·exact⟨h.lo,h.hi,h.dlo,h.dhi⟩
 ·exact h
theorem Ee{Q:Prop}(h:Q:=by rw[AB Ag]):Q:=h
theorem JeY(L:LibR pr F){H:List Blk}{rw:List Nat}{n:Nat}{s:Src}{r:Rd}(hn:H[n]? = some (blk s r))(hr:Rok s r)(c:Int) :
  Det pr F 95 [.ptr n 0,.int .i64 c] ⟨H,rw⟩ (.ret (.tup [])) ⟨H.set n (blk s (Xq s r c)),rw⟩:=by
 have hm:=L.hm;refine Det.of hm (Jt hm L.f95.1 L.f95.2 rfl ?_);have hlt:=(Ac.1 hn).1;have hself:H.set n (blk s r)=H:=JiB hn;by_cases h:r.code=0
 ·have hf:Xq s r c={r with code:=c,at_:=Z3 s r}:=by unfold Xq;rw[if_pos h]
  have hn0:=hn;simp only[blk]at hn;refine' VO;refine Jav (n:=n) (off:=0+4) rfl rfl rfl hn ⟨rfl,rfl,Ba rfl,.inr rfl⟩ (show _=H.set n (blk s {r with code:=c}) from rfl) (J5 _ _ _) ?_;have hn2:=JcJ (b:=blk s {r with code:=c}) hlt;have hp:=Jkp (S:=⟨H.set n (blk s {r with code:=c}),rw⟩) (r:={r with code:=c}) L hn2 ⟨hr.lo,hr.hi,hr.dlo,hr.dhi⟩;refine' VO;refine Jav (n:=n) (off:=0+5) rfl rfl rfl hn2 ⟨rfl,rfl,Ba rfl,.inr rfl⟩ (show _=H.set n (blk s (Xq s r c)) from by rw[hf];exact List.set_set ..) (J5 _ _ _) ?_;refine' VO;exact Jak Ee ⟨rfl,rfl⟩
 ·have hf:Xq s r c=r:=by unfold Xq;rw[if_neg h]
  rw[hf,hself];simp only[blk]at hn;refine' VO;exact Jak (AI) ⟨rfl,rfl⟩
def Y9(s:Src)(r:Rd)(x:Jk):Rd:=if isF s r 0 x=true then{r with i:=r.i+1} else r
theorem JiC{s:Src}{r:Rd}{k:Nat}{x:Jk}(h:isF s r k x=true):r.code=0/\r.i.toNat+k<s.toks.length:=by
 unfold isF at h;simp only[Ah,beq_iff_eq]at h;refine⟨h.1,?_⟩;cases ht:s.toks[r.i.toNat+k]? with
 | none=>rw[ht]at h;simp at h
 | some t=>exact(Ac.1 ht).1
theorem Rok.take{s:Src}{r:Rd}(h:Rok s r)(x:Jk):Rok s (Y9 s r x):=by
 unfold Y9;split
 ·rename_i hi;have:=JiC hi;have h1:=h.lo;exact⟨Bd,Bd,h.dlo,h.dhi⟩
 ·exact h
theorem Jnh(L:LibR pr F){H:List Blk}{rw:List Nat}{n:Nat}{s:Src}{r:Rd}(hn:H[n]? = some (blk s r))(hr:Rok s r)(x:Jk) :
  Det pr F 136 [.ptr n 0,.str x] ⟨H,rw⟩ (.ret (.bool (isF s r 0 x))) ⟨H.set n (blk s (Y9 s r x)),rw⟩:=by
 have hm:=L.hm;refine Det.of hm (Jt hm L.f136.1 L.f136.2 rfl ?_);have hlt:=(Ac.1 hn).1;have hd:=Jpe (S:=⟨H,rw⟩) L hn hr 0 O x;have hsm:=s.small;have hlo:=hr.lo;cases h:isF s r 0 x with
 | true=>
  rw[h]at hd;have h2:=JiC h;have ht:Y9 s r x={r with i:=r.i+1}:=by unfold Y9;rw[if_pos h]
  rw[ht];have hn1:=hn;simp only[blk]at hn1;refine' VO;refine Jav (n:=n) (off:=0+1) rfl rfl rfl hn ⟨rfl,rfl,Ba rfl,.inr rfl⟩ (show _=H.set n (blk s {r with i:=r.i+1}) from rfl) (J5 _ _ _) ?_;refine' VO;exact Js rfl rfl Ee ⟨rfl,rfl⟩
 | false=>
  rw[h]at hd;have ht:Y9 s r x=r:=by unfold Y9;rw[if_neg (by simp[h])]
  rw[ht,JiB hn];refine' VO;exact Js rfl rfl (AI) ⟨rfl,rfl⟩
def Jbi(s:Src)(r:Rd)(x:Jk):Rd:=if isF s r 0 x=true then Y9 s r x else Xq s r 110
theorem Rok.need{s:Src}{r:Rd}(h:Rok s r)(x:Jk):Rok s (Jbi s r x):=by
 unfold Jbi;split
 ·exact h.take x
 ·exact h.fail 110
theorem JtI(L:LibR pr F){H:List Blk}{rw:List Nat}{n:Nat}{s:Src}{r:Rd}(hn:H[n]? = some (blk s r))(hr:Rok s r)(x:Jk) :
  Det pr F 93 [.ptr n 0,.str x] ⟨H,rw⟩ (.ret (.tup [])) ⟨H.set n (blk s (Jbi s r x)),rw⟩:=by
 have hm:=L.hm;refine Det.of hm (Jt hm L.f93.1 L.f93.2 rfl ?_);have hlt:=(Ac.1 hn).1;have hd:=Jnh (rw:=rw) L hn hr x;cases h:isF s r 0 x with
 | true=>
  have ht:Jbi s r x=Y9 s r x:=by unfold Jbi;rw[if_pos h]
  rw[h]at hd;rw[ht];refine' VO;exact Jak Ee ⟨rfl,rfl⟩
 | false=>
  have ht:Jbi s r x=Xq s r 110:=by unfold Jbi;rw[if_neg (by simp[h])]
  have ht2:Y9 s r x=r:=by unfold Y9;rw[if_neg (by simp[h])]
  rw[h,ht2,JiB hn]at hd;rw[ht];have hd2:=JeY (rw:=rw) L hn hr 110;refine' VO;exact Jak Ee ⟨rfl,rfl⟩
structure Adv(s:Src)(r r':Rd):Prop where
 ok:Rok s r'
 mono:r.i<=r'.i
 deep:r'.deep=r.deep
 code:r'.code=0->r.code=0
theorem Adv.rfl{s:Src}{r:Rd}(h:Rok s r):Adv s r r:=⟨h,Int.le_refl _,Eq.refl _,id⟩
theorem Adv.trans{s:Src}{a b c:Rd}(h:Adv s a b)(h':Adv s b c):Adv s a c:=⟨h'.ok,Int.le_trans h.mono h'.mono,h'.deep.trans h.deep,λx=>h.code (h'.code x)⟩
theorem Adv.fail{s:Src}{r:Rd}(h:Rok s r){c:Int}(hc:c≠0):Adv s r (Xq s r c):=by refine⟨h.fail c,?_,?_,?_⟩ <;> unfold Xq <;> split <;> simp_all
theorem Adv.take{s:Src}{r:Rd}(h:Rok s r)(x:Jk):Adv s r (Y9 s r x):=by refine⟨h.take x,?_,?_,?_⟩ <;> unfold Y9 <;> split <;> simp_all <;> omega
theorem Adv.need{s:Src}{r:Rd}(h:Rok s r)(x:Jk):Adv s r (Jbi s r x):=by
 unfold Jbi;split
 ·exact Adv.take h x
 ·exact Adv.fail h O
theorem Jdj{s:Src}{r:Rd}{c:Int}(hc:c≠0):(Xq s r c).code≠0:=by
 unfold Xq;split
 ·exact hc
 ·assumption
theorem Jsj{s:Src}{r:Rd}{x:Jk}(h:(Jbi s r x).code=0):isF s r 0 x=true/\Jbi s r x={r with i:=r.i+1}:=by
 unfold Jbi at h |-;split at h
 ·rename_i h';refine⟨h',?_⟩;rw[if_pos h'];unfold Y9;rw[if_pos h']
 ·exact absurd h (Jdj O)
structure NameOut where
 x:Jk
 r:Rd
def Yz(s:Src)(r:Rd):Rd:=let r':=if r.code=0/\100<=r.deep then Xq s r 111 else r;{r' with deep:=r'.deep+1}
theorem JaB{s:Src}{r:Rd}{c:Int}:(Xq s r c).deep=r.deep/\(Xq s r c).i=r.i:=by unfold Xq;split <;> exact⟨rfl,rfl⟩
theorem JgI{s:Src}{r:Rd}:(Yz s r).deep=r.deep+1/\(Yz s r).i=r.i:=by
 unfold Yz;simp only;split
 ·exact⟨by rw[JaB.1],JaB.2⟩
 ·exact⟨rfl,rfl⟩
theorem JgJ{s:Src}{r:Rd}(h:(Yz s r).code=0):r.code=0/\r.deep<100/\Yz s r={r with deep:=r.deep+1}:=by
 unfold Yz at h |-;simp only at h |-;by_cases hc:r.code=0/\100<=r.deep
 ·rw[if_pos hc]at h;exact absurd h (Jdj O)
 ·rw[if_neg hc]at h;simp only[if_neg hc,and_true];exact⟨h,by simp only[h,true_and]at hc;omega⟩
theorem Rok.enter{s:Src}{r:Rd}(h:Rok s r)(hd:r.deep<1000):Rok s (Yz s r):=by have:=@JgI s r;have h1:=h.lo;have h2:=h.hi;have h3:=h.dlo;exact⟨O,O,O,O⟩
theorem Jsk(L:LibR pr F){H:List Blk}{rw:List Nat}{n:Nat}{s:Src}{r:Rd}(hn:H[n]? = some (blk s r))(hr:Rok s r) :
  Det pr F 140 [.ptr n 0] ⟨H,rw⟩ (.ret (.bool ((Yz s r).code == 0))) ⟨H.set n (blk s (Yz s r)),rw⟩:=by
 have hm:=L.hm;refine Det.of hm (Jt hm L.f140.1 L.f140.2 rfl ?_);have hlt:=(Ac.1 hn).1;have hd2:=JeY (rw:=rw) L hn hr 111;have h3:=hr.dlo;have h4:=hr.dhi;have hn1:=hn;simp only[blk]at hn1;by_cases hc:r.code=0/\100<=r.deep
 ·have he:Yz s r={Xq s r 111 with deep:=r.deep+1}:=by unfold Yz;simp only[if_pos hc,JaB.1]
  obtain⟨hc1,hc2⟩:=hc;have hf:Xq s r 111={r with code:=111,at_:=Z3 s r}:=by unfold Xq;rw[if_pos hc1]
  rw[he];rw[hf]at hd2 |-;have hn2:=JcJ (b:=blk s {r with code:=111,at_:=Z3 s r}) hlt;have hn3:(H.set n (blk s {r with code:=111,at_:=Z3 s r}))[n]? = some (.cells [.list s.sz s.tag (s.toks.map Tok.row),.int .i64 r.i,.int .i64 s.en,.int .i64 r.deep,.int .i64 111,.int .i64 (Z3 s r)]):=hn2;have hn4:(H.set n (blk s {i:=r.i,deep:=r.deep+1,code:=111,at_:=Z3 s r}))[n]? = some (.cells [.list s.sz s.tag (s.toks.map Tok.row),.int .i64 r.i,.int .i64 s.en,.int .i64 (r.deep+1),.int .i64 111,.int .i64 (Z3 s r)]):=JcJ hlt;refine' VO;refine Jav (n:=n) (off:=0+3) rfl rfl rfl hn2 ⟨rfl,rfl,Ba rfl,.inr rfl⟩ (show _=H.set n (blk s {i:=r.i,deep:=r.deep+1,code:=111,at_:=Z3 s r}) from List.set_set ..) (J5 _ _ _) ?_;refine' VO;exact Js rfl rfl Ee ⟨rfl,rfl⟩
 ·have he:Yz s r={r with deep:=r.deep+1}:=by unfold Yz;simp only[if_neg hc]
  rw[he];have hn2:=JcJ (b:=blk s {r with deep:=r.deep+1}) hlt;have hn4:(H.set n (blk s {r with deep:=r.deep+1}))[n]? = some (.cells [.list s.sz s.tag (s.toks.map Tok.row),.int .i64 r.i,.int .i64 s.en,.int .i64 (r.deep+1),.int .i64 r.code,.int .i64 r.at_]):=hn2;by_cases h0:r.code=0
  ·refine' VO;refine Jav (n:=n) (off:=0+3) rfl rfl rfl hn ⟨rfl,rfl,Ba rfl,.inr rfl⟩ (show _=H.set n (blk s {r with deep:=r.deep+1}) from rfl) (J5 _ _ _) ?_;refine' VO;exact Js rfl rfl Ee ⟨by simp[h0],rfl⟩
  ·refine' VO;refine Jav (n:=n) (off:=0+3) rfl rfl rfl hn ⟨rfl,rfl,Ba rfl,.inr rfl⟩ (show _=H.set n (blk s {r with deep:=r.deep+1}) from rfl) (J5 _ _ _) ?_;refine' VO;exact Js rfl rfl Ee ⟨by simp[h0],rfl⟩
theorem JGj(L:LibR pr F){H:List Blk}{rw:List Nat}{n:Nat}{s:Src}{r:Rd}(hn:H[n]? = some (blk s r))(hr:Rok s r) :
  ∃ o:NameOut,(Adv s r o.r/\o.x.length<=40/\(o.r.code=0->Nm o.x/\o.r={r with i:=r.i+1}))/\Det pr F 135 [.ptr n 0] ⟨H,rw⟩ (.ret (.str o.x)) ⟨H.set n (blk s o.r),rw⟩:=by
 have hm:=L.hm;suffices h:Wp pr F 135 [.ptr n 0] ⟨H,rw⟩ λq S'=>∃ o:NameOut,(Adv s r o.r/\o.x.length<=40/\(o.r.code=0->Nm o.x/\o.r={r with i:=r.i+1}))/\q=.ret (.str o.x)/\S'=⟨H.set n (blk s o.r),rw⟩ by obtain⟨q,S',hd,o,hp,rfl,rfl⟩:=h.det hm;exact⟨o,hp,hd⟩
 refine Jt hm L.f135.1 L.f135.2 rfl ?_;have hlt:=(Ac.1 hn).1;have hd2:=JeY (rw:=rw) L hn hr 110;have hsm:=s.small;have hlo:=hr.lo;have hfail:(Adv s r (Xq s r 110)/\([]:Jk).length<=40/\((Xq s r 110).code=0->Nm []/\Xq s r 110={r with i:=r.i+1})):=⟨Adv.fail hr O,Ag,λh=>absurd h (Jdj O)⟩
 obtain⟨j,hj⟩:=CB hr.lo;have hn1:=hn;simp only[blk,hj]at hn1;by_cases h0:r.code=0
 ·rw[h0]at hn1;by_cases h1:j<s.toks.length
  ·have e1:s.toks[j]? = some s.toks[j]:=Ab h1;have e2:(s.toks.map Tok.row)[j]? = some (Tok.row s.toks[j]):=by rw[Ax,e1];rfl
   have hsz:=s.hsz (by intro h;rw[h]at h1;simp at h1);rw[hsz]at hn1;obtain⟨b,hb,hd3⟩:=JtF L.toLibL ⟨H,rw⟩ s.toks[j].text;cases b with
   | true=>
    have hn2:=JcJ (b:=blk s {r with i:=r.i+1}) hlt;have hn3:(H.set n (blk s {r with i:=r.i+1}))[n]? = some (.cells [.list 3 s.tag (s.toks.map Tok.row),.int .i64 ((j:Int)+1),.int .i64 s.en,.int .i64 r.deep,.int .i64 r.code,.int .i64 r.at_]):=by rw[hn2];simp only[blk,hsz,hj]
    have e3:((j:Int)+1-1)=(j:Nat):=O;refine' VO;refine Jav (n:=n) (off:=0+1) rfl rfl rfl hn ⟨rfl,rfl,Ba rfl,.inr rfl⟩ (show _=H.set n (blk s {r with i:=r.i+1}) from by rw[hj];rfl) (J5 _ _ _) ?_;clear hn hn1 hn2;refine' VO;refine Js rfl rfl Ee ⟨⟨s.toks[j].text,{r with i:=r.i+1}⟩,⟨⟨⟨Bd,Bd,hr.dlo,hr.dhi⟩,Bd,rfl,λ_=>h0⟩,(hb rfl).len,λ_=>⟨hb rfl,rfl⟩⟩,rfl,rfl⟩
   | false=>refine' VO;exact Js rfl rfl Ee ⟨⟨[],Xq s r 110⟩,hfail,rfl,rfl⟩
  ·refine' VO;exact Js rfl rfl Ee ⟨⟨[],Xq s r 110⟩,hfail,rfl,rfl⟩
 ·refine' VO;exact Js rfl rfl Ee ⟨⟨[],Xq s r 110⟩,hfail,rfl,rfl⟩
set_option maxRecDepth 100000
set_option maxHeartbeats 16000000
def YZ:{l:List IC // Tr.fn Tr.TT Tryz.f192 0 [[0,2],[0,2,3],[0,2,3,9],[0,2,3,11],[0,2,3],[0,2,3,14],[0,2,3],[0,2,3],[0,2,3],[0,2,3],[0,2,3],[0,2,3,27],[0,2,3,4],[0,2,3,4],[0,2,3,4],[0,2,3,4],[0,2,3,4],[0,2,3],[2,3],[2]]=l}:=⟨_,AO⟩
def JGk:IC:=pk YZ.1 0
def JGl:IC:=pk YZ.1 1
def JGm:IC:=pk YZ.1 2
def JGn:IC:=pk YZ.1 3
def JGo:IC:=pk YZ.1 4
def JGp:IC:=pk YZ.1 5
def JGq:IC:=pk YZ.1 6
def JGr:IC:=pk YZ.1 7
def JGs:IC:=pk YZ.1 8
def JGt:IC:=pk YZ.1 9
def Jxb:IC:=pk YZ.1 10
def Jqy:IC:=pk YZ.1 11
def Jqz:IC:=pk YZ.1 12
def JqA:IC:=pk YZ.1 13
def JqB:IC:=pk YZ.1 14
def JqC:IC:=pk YZ.1 15
def JqD:IC:=pk YZ.1 16
def JqE:IC:=pk YZ.1 17
def JqF:IC:=pk YZ.1 18
def JqG:IC:=pk YZ.1 19
def Jxc:IFn:=⟨1,(.seq JGk (.seq JGl (.seq (.seq JGm (.cond (.tmp 9) (.seq (.seq JGn (.cond (.tmp 11) JGo (.seq JGp (.cond (.tmp 14) JGq (.seq JGr (.seq JGs JGt)))))) (.seq Jxb (.block 0 (.loop [0,2,3] (.seq (.seq Jqy (.cond (.tmp 27) (.skip) (.exit 0))) (.block 1 (.seq Jqz (.seq JqA (.seq JqB (.seq JqC (.seq JqD JqE))))))))))) (.skip))) (.seq JqF (.seq JqG .ret))))),[.cell 2 (some 6)]⟩
theorem JTu:JK Tryz.prog Tryz.f192 Jxc=true:=Ae
def Jkq:{l:List IC // Tr.fn Tr.TT Tryz.f193 0 [[0,2],[0,2,3],[0,2,3,5],[0,2,3],[2,3],[2]]=l}:=⟨_,AO⟩
def JGu:IC:=pk Jkq.1 0
def JGv:IC:=pk Jkq.1 1
def JGw:IC:=pk Jkq.1 2
def JGx:IC:=pk Jkq.1 3
def JGy:IC:=pk Jkq.1 4
def JGz:IC:=pk Jkq.1 5
def Jxd:IFn:=⟨1,(.seq JGu (.seq JGv (.seq (.seq JGw (.cond (.tmp 5) JGx (.skip))) (.seq JGy (.seq JGz .ret))))),[.cell 2 (some 5)]⟩
theorem JTv:JK Tryz.prog Tryz.f193 Jxd=true:=Ae
def JdI:{l:List IC // Tr.fn Tr.TT Tryz.f195 0 [[0],[0,3],[0,3,5],[2],[0,3,10],[0,3],[0,3,17],[2],[0,3],[2]]=l}:=⟨_,AO⟩
def JGA:IC:=pk JdI.1 0
def JGB:IC:=pk JdI.1 1
def JGC:IC:=pk JdI.1 2
def JGD:IC:=pk JdI.1 3
def JGE:IC:=pk JdI.1 4
def JGF:IC:=pk JdI.1 5
def JGG:IC:=pk JdI.1 6
def JGH:IC:=pk JdI.1 7
def JGI:IC:=pk JdI.1 8
def JGJ:IC:=pk JdI.1 9
def Jxe:IFn:=⟨1,(.seq JGA (.seq JGB (.seq (.seq JGC (.cond (.tmp 5) (.seq JGD .ret) (.skip))) (.seq (.block 0 (.loop [0,3] (.seq (.seq JGE (.cond (.tmp 10) (.skip) (.exit 0))) (.block 1 (.seq JGF (.seq (.seq JGG (.cond (.tmp 17) (.seq JGH .ret) (.skip))) JGI)))))) (.seq JGJ .ret))))),[.tmp 2]⟩
theorem JTw:JK Tryz.prog Tryz.f195 Jxe=true:=Ae
def Yh:{l:List IC // Tr.fn Tr.TT Tryz.f201 0 [[0],[3],[3,4],[2],[3,6],[2],[3,8],[2],[3,10],[3,10],[3,10],[3,10],[3,10],[3,10],[2],[3,17],[3,17],[2],[3,20],[3,20],[20],[2],[2]]=l}:=⟨_,AO⟩
def JGK:IC:=pk Yh.1 0
def JGL:IC:=pk Yh.1 1
def JGM:IC:=pk Yh.1 2
def JGN:IC:=pk Yh.1 3
def JGO:IC:=pk Yh.1 4
def JGP:IC:=pk Yh.1 5
def JGQ:IC:=pk Yh.1 6
def JGR:IC:=pk Yh.1 7
def JGS:IC:=pk Yh.1 8
def JGT:IC:=pk Yh.1 9
def Jxf:IC:=pk Yh.1 10
def Jxg:IC:=pk Yh.1 11
def Jxh:IC:=pk Yh.1 12
def Jxi:IC:=pk Yh.1 13
def Jxj:IC:=pk Yh.1 14
def Jxk:IC:=pk Yh.1 15
def Jxl:IC:=pk Yh.1 16
def Jxm:IC:=pk Yh.1 17
def Jxn:IC:=pk Yh.1 18
def Jxo:IC:=pk Yh.1 19
def Jxp:IC:=pk Yh.1 20
def Jxq:IC:=pk Yh.1 21
def Jxr:IC:=pk Yh.1 22
def Jxs:IFn:=⟨1,(.seq JGK (.seq (.seq JGL (.block 0 (.seq JGM (.cond (.tmp 4) (.seq JGN .ret) (.seq JGO (.cond (.tmp 6) (.seq JGP .ret) (.seq JGQ (.cond (.tmp 8) (.seq JGR .ret) (.seq (.seq JGS (.cond (.tmp 10) (.skip) (.seq JGT (.cond (.tmp 10) (.skip) (.seq Jxf (.cond (.tmp 10) (.skip) (.seq Jxg (.cond (.tmp 10) (.skip) (.seq Jxh (.cond (.tmp 10) (.skip) Jxi)))))))))) (.cond (.tmp 10) (.seq Jxj .ret) (.seq (.seq Jxk (.cond (.tmp 17) (.skip) Jxl)) (.cond (.tmp 17) (.seq Jxm .ret) (.seq (.seq Jxn (.cond (.tmp 20) (.skip) (.seq Jxo (.cond (.tmp 20) (.skip) Jxp)))) (.cond (.tmp 20) (.seq Jxq .ret) (.skip))))))))))))))) (.seq Jxr .ret))),[.tmp 2]⟩
theorem JTx:JK Tryz.prog Tryz.f201 Jxs=true:=Ae
def JiD:{l:List IC // Tr.fn Tr.TT Tryz.f227 0 [[0],[0,16],[2],[0],[0,3],[3],[2]]=l}:=⟨_,AO⟩
def JGU:IC:=pk JiD.1 0
def JGV:IC:=pk JiD.1 1
def JGW:IC:=pk JiD.1 2
def JGX:IC:=pk JiD.1 3
def JGY:IC:=pk JiD.1 4
def JGZ:IC:=pk JiD.1 5
def JG0:IC:=pk JiD.1 6
def Jxt:IFn:=⟨1,(.seq JGU (.seq (.seq JGV (.cond (.tmp 16) (.seq JGW .ret) (.skip))) (.seq JGX (.seq JGY (.seq JGZ (.seq JG0 .ret)))))),[.tmp 2]⟩
theorem JTy:JK Tryz.prog Tryz.f227 Jxt=true:=Ae
def Yt:{l:List IC // Tr.fn Tr.TT Tryz.f228 0 [[0,1,4],[0,1,4,12],[4],[0,1,4,5],[0,1,4,5,6],[0,1,4,5,6,32],[0,1,4,5,6],[0,1,4,5,6],[0,1,4,5,6],[4,5,6,57],[4,5,6,7],[4,5,6,7,8],[4,5,6,7,8,68],[4,5,6,7,8],[4,5,6,7,8],[4],[4,5,6,9],[4,5,6,9,10],[4,5,6,9,10,95],[4,5,6,9,10],[4,5,6,9,10],[4]]=l}:=⟨_,AO⟩
def JG1:IC:=pk Yt.1 0
def JG2:IC:=pk Yt.1 1
def JG3:IC:=pk Yt.1 2
def JG4:IC:=pk Yt.1 3
def JG5:IC:=pk Yt.1 4
def JG6:IC:=pk Yt.1 5
def JG7:IC:=pk Yt.1 6
def JG8:IC:=pk Yt.1 7
def JG9:IC:=pk Yt.1 8
def JtJ:IC:=pk Yt.1 9
def JqH:IC:=pk Yt.1 10
def JqI:IC:=pk Yt.1 11
def JqJ:IC:=pk Yt.1 12
def JqK:IC:=pk Yt.1 13
def JqL:IC:=pk Yt.1 14
def JqM:IC:=pk Yt.1 15
def JqN:IC:=pk Yt.1 16
def JqO:IC:=pk Yt.1 17
def JqP:IC:=pk Yt.1 18
def JqQ:IC:=pk Yt.1 19
def JqR:IC:=pk Yt.1 20
def JqS:IC:=pk Yt.1 21
def Jxu:IFn:=⟨2,(.seq JG1 (.seq (.seq JG2 (.cond (.tmp 12) (.seq JG3 .ret) (.skip))) (.seq JG4 (.seq JG5 (.seq (.block 0 (.loop [0,1,4,5,6] (.seq (.seq JG6 (.cond (.tmp 32) (.skip) (.exit 0))) (.block 1 (.seq JG7 (.seq JG8 JG9)))))) (.seq (.seq JtJ (.cond (.tmp 57) (.seq JqH (.seq (.seq JqI (.block 2 (.loop [4,5,6,7,8] (.seq (.seq JqJ (.cond (.tmp 68) (.skip) (.exit 2))) (.seq (.block 3 JqK) JqL))))) (.seq JqM .ret))) (.skip))) (.seq JqN (.seq (.seq JqO (.block 4 (.loop [4,5,6,9,10] (.seq (.seq JqP (.cond (.tmp 95) (.skip) (.exit 4))) (.seq (.block 5 JqQ) JqR))))) (.seq JqS .ret))))))))),[.cell 4 (some 5)]⟩
theorem JTz:JK Tryz.prog Tryz.f228 Jxu=true:=Ae
def XJ:{l:List IC // Tr.fn Tr.TT Tryz.f244 0 [[0,2],[0,2,11],[0,2,3],[0,2,3,16],[0,2,3],[0,2,3],[0,2,3,26],[0,2,3],[2,3],[2],[0,2,4],[0,2,4,46],[0,2,4,5],[0,2,4,5,51],[0,2,4,5],[0,2,4,5],[0,2,4],[0,2,4,5],[0,2,4,5],[0,2,4,5],[0,2,4,5],[0,2,4,5,77],[0,2,4,5],[0,2,4,5],[0,2,4],[2]]=l}:=⟨_,AO⟩
def JHa:IC:=pk XJ.1 0
def JHb:IC:=pk XJ.1 1
def JHc:IC:=pk XJ.1 2
def JHd:IC:=pk XJ.1 3
def JHe:IC:=pk XJ.1 4
def JHf:IC:=pk XJ.1 5
def JHg:IC:=pk XJ.1 6
def JHh:IC:=pk XJ.1 7
def JHi:IC:=pk XJ.1 8
def JHj:IC:=pk XJ.1 9
def Jxv:IC:=pk XJ.1 10
def Jxw:IC:=pk XJ.1 11
def Jxx:IC:=pk XJ.1 12
def Jxy:IC:=pk XJ.1 13
def Jxz:IC:=pk XJ.1 14
def JxA:IC:=pk XJ.1 15
def JxB:IC:=pk XJ.1 16
def JxC:IC:=pk XJ.1 17
def JxD:IC:=pk XJ.1 18
def JxE:IC:=pk XJ.1 19
def JxF:IC:=pk XJ.1 20
def JxG:IC:=pk XJ.1 21
def JxH:IC:=pk XJ.1 22
def JxI:IC:=pk XJ.1 23
def JxJ:IC:=pk XJ.1 24
def JxK:IC:=pk XJ.1 25
def JxL:IFn:=⟨1,(.seq JHa (.seq (.seq JHb (.cond (.tmp 11) (.seq JHc (.seq (.seq JHd (.cond (.tmp 16) JHe (.skip))) (.seq JHf (.seq (.seq JHg (.cond (.tmp 26) JHh (.skip))) (.seq JHi (.seq JHj .ret)))))) (.skip))) (.seq Jxv (.seq (.block 0 (.loop [0,2,4] (.seq (.seq Jxw (.cond (.tmp 46) (.skip) (.exit 0))) (.block 1 (.seq Jxx (.seq (.seq Jxy (.cond (.tmp 51) (.seq Jxz (.seq JxA (.seq JxB (.exit 1)))) (.skip))) (.seq JxC (.seq JxD (.seq JxE (.seq JxF (.seq (.seq JxG (.cond (.tmp 77) (.seq JxH JxI) (.skip))) JxJ))))))))))) (.seq JxK .ret))))),[.cell 2 (some 5)]⟩
theorem JTA:JK Tryz.prog Tryz.f244 JxL=true:=Ae
def JqT:{l:List IC // Tr.fn Tr.TT Tryz.f245 0 [[0,1],[0,37],[4],[4]]=l}:=⟨_,AO⟩
def JHk:IC:=pk JqT.1 0
def JHl:IC:=pk JqT.1 1
def JHm:IC:=pk JqT.1 2
def JHn:IC:=pk JqT.1 3
def JxM:IFn:=⟨2,(.seq JHk (.seq (.seq JHl (.cond (.tmp 37) (.seq JHm .ret) (.skip))) (.seq JHn .ret))),[.tmp 4]⟩
theorem JTB:JK Tryz.prog Tryz.f245 JxM=true:=Ae
def V4:{l:List IC // Tr.fn Tr.TT Tryz.f253 0 [[0,2],[0,2,3],[0,2,3,25],[2,3],[2],[0,2,3,4],[0,2,3,4],[0,2,3,4,57],[2,3],[0,2,3,4,65],[2,3],[0,2,3,4,87],[0,2,3],[2,3],[0,2,3,4,95],[0,2,3],[0,2,3],[0,2,3],[2,3],[0,2,3,4,108],[0,2,3],[0,2,3],[0,2,3],[0,2,3,5],[0,2,3,5],[0,2,3],[2,3],[0,2,3,4,130],[0,2,3],[0,2,3],[0,2,3],[2,3]]=l}:=⟨_,AO⟩
def JHo:IC:=pk V4.1 0
def JHp:IC:=pk V4.1 1
def JHq:IC:=pk V4.1 2
def JHr:IC:=pk V4.1 3
def JHs:IC:=pk V4.1 4
def JHt:IC:=pk V4.1 5
def JHu:IC:=pk V4.1 6
def JHv:IC:=pk V4.1 7
def JHw:IC:=pk V4.1 8
def JHx:IC:=pk V4.1 9
def JxN:IC:=pk V4.1 10
def JxO:IC:=pk V4.1 11
def JxP:IC:=pk V4.1 12
def JxQ:IC:=pk V4.1 13
def JxR:IC:=pk V4.1 14
def JxS:IC:=pk V4.1 15
def JxT:IC:=pk V4.1 16
def JxU:IC:=pk V4.1 17
def JxV:IC:=pk V4.1 18
def JxW:IC:=pk V4.1 19
def JxX:IC:=pk V4.1 20
def JxY:IC:=pk V4.1 21
def JxZ:IC:=pk V4.1 22
def Jx0:IC:=pk V4.1 23
def Jx1:IC:=pk V4.1 24
def Jx2:IC:=pk V4.1 25
def Jx3:IC:=pk V4.1 26
def Jx4:IC:=pk V4.1 27
def Jx5:IC:=pk V4.1 28
def Jx6:IC:=pk V4.1 29
def Jx7:IC:=pk V4.1 30
def Jx8:IC:=pk V4.1 31
def JgK:{l:List IC // Tr.fn Tr.TT Tryz.f253 32 [[0,2,3,143],[0,2,3],[0,2,3],[2,3],[0,2,3],[0,2,3],[2,3],[2]]=l}:=⟨_,AO⟩
def Jx9:IC:=pk JgK.1 0
def Jya:IC:=pk JgK.1 1
def Jyb:IC:=pk JgK.1 2
def Jyc:IC:=pk JgK.1 3
def Jyd:IC:=pk JgK.1 4
def Jye:IC:=pk JgK.1 5
def Jyf:IC:=pk JgK.1 6
def Jyg:IC:=pk JgK.1 7
def Jyh:IFn:=⟨1,(.seq JHo (.seq JHp (.seq (.seq JHq (.cond (.tmp 25) (.seq JHr (.seq JHs .ret)) (.skip))) (.seq JHt (.seq JHu (.seq (.block 0 (.seq JHv (.cond (.tmp 57) JHw (.seq JHx (.cond (.tmp 65) JxN (.seq JxO (.cond (.tmp 87) (.seq JxP JxQ) (.seq JxR (.cond (.tmp 95) (.seq JxS (.seq JxT (.seq JxU JxV))) (.seq JxW (.cond (.tmp 108) (.seq JxX (.seq JxY (.seq JxZ (.seq Jx0 (.seq Jx1 (.seq Jx2 Jx3)))))) (.seq Jx4 (.cond (.tmp 130) (.seq Jx5 (.seq Jx6 (.seq Jx7 Jx8))) (.seq Jx9 (.cond (.tmp 143) (.seq Jya (.seq Jyb Jyc)) (.seq Jyd (.seq Jye Jyf))))))))))))))))) (.seq Jyg .ret))))))),[.cell 2 (some 5)]⟩
theorem JTC:JK Tryz.prog Tryz.f253 Jyh=true:=Ae
structure Out(α:Type) where
 x:α
 r:Rd
 rw:List Nat
structure Nx(s:Src)(r r':Rd):Prop where
 lo:0<=r'.i
 hi:r'.i<=s.toks.length
 dlo:0<=r'.deep
 dhi:r'.deep<=1000
 mono:r.i<=r'.i
 code:r'.code=0->r.code=0
def RC(pr:Jz)(F:Nat->Option IFn){α:Type}(enc:α->AV)(post:Src->Rd->α->Rd->Prop)(f:Nat)(args:List AV)(m:Int):Prop:=
 ∀(H:List Blk) (rw:List Nat) (n:Nat) (s:Src) (r:Rd) (M:List Blk),n<H.length->Rok s r->101<=r.deep+m->r.deep<=200 ->
  ∃ o:Out α,(Nx s r o.r/\Rx rw o.rw/\post s r o.x o.r)/\Det pr F f (.ptr n 0::args) ⟨hp H n (blk s r) M,rw⟩ (.ret (enc o.x)) ⟨hp H n (blk s o.r) M,o.rw⟩
theorem JDP{H:List Blk}{n:Nat}{b b':Blk}{L:List Blk}:hp (hp H n b L) n b' []=hp H n b' L:=CO
theorem Kw(hp_:Yy pr){f:Nat}{na:Nat}{c:IC}{res:List RVar}{vs:List AV}{H:List Blk}{rw:List Nat}{n:Nat}{b:Blk}{Q:Res->St->Prop}(h1:pr f=none)(h2:F f=some ⟨na,c,res⟩)(h3:vs.length=na)(hn:H=hp H n b [])
  (h:At pr F H.length (fin res H.length Q) c [] (Ys vs) ⟨hp H n b [],rw⟩):Wp pr F f vs ⟨H,rw⟩ Q:=by
 refine Jt hp_ h1 h2 h3 ?_;rw[<- hn]at h;exact h
def Jni{α:Type}(enc:α->AV)(post:Src->Rd->α->Rd->Prop)(H:List Blk)(n:Nat)(s:Src)(r:Rd)(rw:List Nat)(q:Res)(S':St):Prop:=
 ∃ o:Out α,(Nx s r o.r/\Rx rw o.rw/\post s r o.x o.r)/\q=.ret (enc o.x)/\S'=⟨hp H n (blk s o.r) [],o.rw⟩
theorem Vi{α:Type}{enc:α->AV}{post:Src->Rd->α->Rd->Prop}{H:List Blk}{n:Nat}{s:Src}{r r':Rd}{rw rw':List Nat}{v:AV}(x:α)(hR:Rx rw rw')(hx:v=enc x)(hn:Nx s r r')(hp':post s r x r'):Jni enc post H n s r rw (.ret v) ⟨hp H n (blk s r') [],rw'⟩:=
 ⟨⟨x,r',rw'⟩,⟨hn,hR,hp'⟩,by rw[hx],rfl⟩
theorem Ef{Q:Prop}(h:Q:=by rw[XO];omega):Q:=h
theorem VZ(hm:Yy pr){α:Type}{enc:α->AV}{post:Src->Rd->α->Rd->Prop}{f na:Nat}{c:IC}{res:List RVar}{args:List AV}{m:Int}(h1:pr f=none)(h2:F f=some ⟨na,c,res⟩)(h3:args.length+1=na)
  (h:∀(H:List Blk) (rw:List Nat) (n:Nat) (s:Src) (r:Rd),n<H.length->s.toks.length<=8000->Rok s r->0<=r.i->r.i<=s.toks.length->0<=r.deep->r.deep<=200->101<=r.deep+m ->
   At pr F H.length (fin res H.length (Jni enc post H n s r rw)) c [] (Ys (.ptr n 0::args)) ⟨hp H n (blk s r) [],rw⟩):RC pr F enc post f args m:=by
 intro H0 rw n s r M hlt hr hd hd2;have hw:Wp pr F f (.ptr n 0::args) ⟨hp H0 n (blk s r) M,rw⟩ λq S'=>∃ o:Out α,(Nx s r o.r/\Rx rw o.rw/\post s r o.x o.r)/\q=.ret (enc o.x)/\S'=⟨hp H0 n (blk s o.r) M,o.rw⟩:=by refine Kw hm h1 h2 (by simp[h3]) (n:=n) (b:=blk s r) (by rw[JDP]) ?_;have:=h (hp H0 n (blk s r) M) rw n s r Ef s.small hr hr.lo hr.hi hr.dlo hd2 hd;unfold Jni at this;simpa only[JDP] using this
 obtain⟨q,S',hd,o,hp,rfl,rfl⟩:=hw.det hm;exact⟨o,hp,hd⟩
def RQ(pr:Jz)(F:Nat->Option IFn){α:Type}(enc:α->AV)(post:Src->Rd->α->Prop)(f:Nat)(args:List AV):Prop:=
 ∀(H:List Blk) (rw:List Nat) (n:Nat) (s:Src) (r:Rd) (M:List Blk),n<H.length->Rok s r ->
  ∃ x:α,post s r x/\Det pr F f (.ptr n 0::args) ⟨hp H n (blk s r) M,rw⟩ (.ret (enc x)) ⟨hp H n (blk s r) M,rw⟩
theorem KU{K:AV->St->Prop}{H:List Blk}{rw:List Nat}{n:Nat}{s:Src}{r:Rd}{M:List Blk}{α:Type}{enc:α->AV}{post:Src->Rd->α->Rd->Prop}{fn:Nat}{args:List AV}{m:Int}(hc:RC pr F enc post fn args m)(hlt:n<H.length)(hok:Rok s r)(hd:101<=r.deep+m)(hd2:r.deep<=200)
  (h:∀(x:α) (r':Rd) (rw':List Nat),Rx rw rw'->Rok s r'->0<=r'.i->r'.i<=s.toks.length->0<=r'.deep->r.i<=r'.i->(r'.code=0->r.code=0)->post s r x r'->K (enc x) ⟨hp H n (blk s r') M,rw'⟩) :
  ClAt pr F fn (.ptr n 0::args) ⟨hp H n (blk s r) M,rw⟩ K:=by
 obtain⟨o,⟨hn,hR,hp'⟩,hdet⟩:=hc H rw n s r M hlt hok hd hd2;exact⟨_,_,hdet,h o.x o.r o.rw hR ⟨hn.lo,hn.hi,hn.dlo,hn.dhi⟩ hn.lo hn.hi hn.dlo hn.mono hn.code hp'⟩
theorem JgL{K:AV->St->Prop}{H:List Blk}{rw:List Nat}{n:Nat}{s:Src}{r:Rd}{M:List Blk}{enc:Bool->AV}{post:Src->Rd->Bool->Rd->Prop}{fn:Nat}{args:List AV}{m:Int}(hc:RC pr F enc post fn args m)(hlt:n<H.length)(hok:Rok s r)(hd:101<=r.deep+m)(hd2:r.deep<=200)
  (h:∀(r':Rd) (rw':List Nat),Rx rw rw'->Rok s r'->0<=r'.i->r'.i<=s.toks.length->0<=r'.deep->r.i<=r'.i->(r'.code=0->r.code=0)->post s r true r'->K (enc true) ⟨hp H n (blk s r') M,rw'⟩)
  (h':∀(r':Rd) (rw':List Nat),Rx rw rw'->Rok s r'->0<=r'.i->r'.i<=s.toks.length->0<=r'.deep->r.i<=r'.i->(r'.code=0->r.code=0)->post s r false r'->K (enc false) ⟨hp H n (blk s r') M,rw'⟩) :
  ClAt pr F fn (.ptr n 0::args) ⟨hp H n (blk s r) M,rw⟩ K:=by
 refine KU hc hlt hok hd hd2 λx=>?_;cases x with
 | true=>exact h
 | false=>exact h'
theorem Jhc{K:AV->St->Prop}{H:List Blk}{rw:List Nat}{n:Nat}{s:Src}{r:Rd}{M:List Blk}{α:Type}{enc:α->AV}{post:Src->Rd->α->Prop}{fn:Nat}{args:List AV}(hc:RQ pr F enc post fn args)(hlt:n<H.length)(hok:Rok s r)
  (h:∀(x:α),post s r x->K (enc x) ⟨hp H n (blk s r) M,rw⟩):ClAt pr F fn (.ptr n 0::args) ⟨hp H n (blk s r) M,rw⟩ K:=by
 obtain⟨x,hp',hdet⟩:=hc H rw n s r M hlt hok;exact⟨_,_,hdet,h x hp'⟩
theorem Jcb{K:AV->St->Prop}{H:List Blk}{rw:List Nat}{n:Nat}{s:Src}{r:Rd}{M:List Blk}{enc:Bool->AV}{post:Src->Rd->Bool->Prop}{fn:Nat}{args:List AV}(hc:RQ pr F enc post fn args)(hlt:n<H.length)(hok:Rok s r)
  (h:post s r true->K (enc true) ⟨hp H n (blk s r) M,rw⟩) (h':post s r false->K (enc false) ⟨hp H n (blk s r) M,rw⟩):ClAt pr F fn (.ptr n 0::args) ⟨hp H n (blk s r) M,rw⟩ K:=by
 refine Jhc hc hlt hok λx=>?_;cases x with
 | true=>exact h
 | false=>exact h'
section
variable {K:St->Prop} {L:AV->Prop} {H:List Blk} {rw:List Nat} {n:Nat} {b:Blk} {s:Src} {r:Rd} {M M':List Blk}
theorem Jyi{b0:Nat}{v:Int}(hlt:n<H.length)(hok:Rok s r)(hv:0<=v/\v<=s.toks.length)(h:∀ r':Rd,Rok s r'->0<=r'.i->r'.i<=s.toks.length->r'.i=v->r'.deep=r.deep->r'.code=r.code->K ⟨hp H n (blk s r') M,rw⟩) :
  StAt b0 1 (.ptr n (0+1)) (.int .i64 v) ⟨hp H n (blk s r) M,rw⟩ K:=by
 have hv0:0<=v:=hv.1;refine⟨_,?_,h {r with i:=v} ⟨hv0,hv.2,hok.dlo,hok.dhi⟩ hv0 hv.2 rfl rfl rfl⟩;unfold JcD;simp only[Kh hlt];simp[blk,AV.cells,AV.okv,Ai.below,overlay,Z0]
theorem JhB{b0:Nat}{v:Int}(hlt:n<H.length)(hok:Rok s r)(hv:0<=v/\v<=1000)(h:∀ r':Rd,Rok s r'->0<=r'.i->r'.i<=s.toks.length->r'.i=r.i->r'.deep=v->r'.code=r.code->K ⟨hp H n (blk s r') M,rw⟩) :
  StAt b0 1 (.ptr n (0+3)) (.int .i64 v) ⟨hp H n (blk s r) M,rw⟩ K:=by
 refine⟨_,?_,h {r with deep:=v} ⟨hok.lo,hok.hi,hv.1,hv.2⟩ hok.lo hok.hi rfl rfl rfl⟩;unfold JcD;simp only[Kh hlt];simp[blk,AV.cells,AV.okv,Ai.below,overlay,Z0]
end
theorem VQ(t:Tok):Row 3 (Tok.row t):=⟨rfl,rfl,rfl⟩
theorem JqU{K:AV->Prop}{s:Src}{i:Int}(hlo:0<=i)(hi:i<s.toks.length)(h:∀ t:Tok,t.text.length<=8000->s.toks[i.toNat]? = some t->K (.ref (Tok.row t))):IaAt 3 (.list s.sz s.tag (s.toks.map Tok.row)) (.int .i64 i) K:=by have hlt:i.toNat<s.toks.length:=O;have e1:s.toks[i.toNat]? = some s.toks[i.toNat]:=Ab hlt;have hsz:=s.hsz (by intro h;rw[h]at hlt;simp at hlt);rw[hsz];refine JaZ (m:=i.toNat) (r:=Tok.row s.toks[i.toNat]) ?_ O (h _ (s.txt _ (DG hlt)).1 e1);rw[Ax,e1];rfl
structure LibX(pr:Jz)(F:Nat->Option IFn):Prop extends LibR pr F where
 f192:QG pr F 192 Jxc
 f193:QG pr F 193 Jxd
 f195:QG pr F 195 Jxe
 f201:QG pr F 201 Jxs
 f227:QG pr F 227 Jxt
 f228:QG pr F 228 Jxu
 f244:QG pr F 244 JxL
 f245:QG pr F 245 JxM
 f253:QG pr F 253 Jyh
theorem Rok.nx{s:Src}{r r':Rd}(h:Rok s r')(h1:r.i<=r'.i)(h2:r'.code=0->r.code=0):Nx s r r':=⟨h.lo,h.hi,h.dlo,h.dhi,h1,h2⟩
def isP(k:Nat)(s:Src)(r:Rd):Bool->Prop
 | true=>r.code=0/\r.i+k<s.toks.length
 | false=>True/\True
def JHy(_:Src)(_:Rd)(_:Int):Prop:=True
def JTD(_:Src)(r:Rd)(_:Unit)(r':Rd):Prop:=r'.code≠0/\r'.i=r.i/\r'.deep=r.deep
def JTE(_:Src)(r:Rd):Bool->Rd->Prop
 | true,r'=>r'.deep=r.deep/\r'.code=r.code/\r.code=0/\r'.i=r.i+1
 | false,r'=>r'.deep=r.deep/\r'.code=r.code/\r'.i=r.i
def JTF(_:Src)(r:Rd)(_:Unit)(r':Rd):Prop:=r'.deep=r.deep/\(r'.code=0->r'.i=r.i+1)
def JHz(_:Src)(r:Rd):Bool->Rd->Prop
 | true,r'=>r'.deep=r.deep+1/\r'.i=r.i/\r'.code=0/\r.code=0/\r.deep<100
 | false,r'=>r'.deep=r.deep+1/\r'.i=r.i/\r'.code≠0
def JTG(_:Src)(r:Rd)(x:Jk)(r':Rd):Prop:=r'.deep=r.deep/\(x.length<=40/\(r'.code=0->r'.i=r.i+1))/\(r'.code=0->Nm x)
theorem KJ(L:LibR pr F)(k:Nat)(hk:k<=5)(x:Jk):RQ pr F AV.bool (isP k) 90 [.int .i64 k,.str x]:=by
 intro H rw n s r M hlt hr;refine⟨isF s r k x,?_,Jpe (S:=⟨_,_⟩) L (Kh hlt) hr k hk x⟩;cases h:isF s r k x with
 | true=>have:=JiC h;have h0:=hr.lo;exact⟨this.1,O⟩
 | false=>exact⟨trivial,trivial⟩
theorem KW(L:LibR pr F):RQ pr F (AV.int .i64) JHy 134 []:=λ_ _rw _ s r _ hlt hr=>
 ⟨Z3 s r,trivial,Jkp (S:=⟨_,_⟩) L (Kh hlt) hr⟩
theorem Vt(L:LibR pr F)(c:Int)(hc:c≠0)(m:Int):RC pr F (λ_:Unit=>AV.tup []) JTD 95 [.int .i64 c] m:=by
 intro H rw n s r M hlt hr _ _;have hA:=Adv.fail hr hc;refine⟨⟨(),Xq s r c,rw⟩,⟨(hr.fail c).nx hA.mono hA.code,Rx.rfl,Jdj hc,JaB.2,JaB.1⟩,?_⟩;have:=JeY (rw:=rw) L (Kh (L:=M) hlt) hr c
 rwa [Z0]at this
theorem Vu(L:LibR pr F)(x:Jk)(m:Int):RC pr F AV.bool JTE 136 [.str x] m:=by
 intro H rw n s r M hlt hr _ _;have hA:=Adv.take hr x;have hcode:(Y9 s r x).code=r.code:=by unfold Y9;split <;> rfl
 refine⟨⟨isF s r 0 x,Y9 s r x,rw⟩,⟨(hr.take x).nx hA.mono hA.code,Rx.rfl,?_⟩,?_⟩
 ·simp only;cases h:isF s r 0 x with
  | true=>have:=JiC h;exact⟨hA.deep,hcode,this.1,by unfold Y9;rw[if_pos h]⟩
  | false=>exact⟨hA.deep,hcode,by unfold Y9;rw[if_neg (by rw[h];simp)]⟩
 ·have:=Jnh (rw:=rw) L (Kh (L:=M) hlt) hr x
  rwa [Z0]at this
theorem Vv(L:LibR pr F)(x:Jk)(m:Int):RC pr F (λ_:Unit=>AV.tup []) JTF 93 [.str x] m:=by
 intro H rw n s r M hlt hr _ _;have hA:=Adv.need hr x;refine⟨⟨(),Jbi s r x,rw⟩,⟨(hr.need x).nx hA.mono hA.code,Rx.rfl,hA.deep,λh=>?_⟩,?_⟩
 ·have:=(Jsj h).2;simp only at this |-;rw[this]
 ·have:=JtI (rw:=rw) L (Kh (L:=M) hlt) hr x
  rwa [Z0]at this
theorem QO(L:LibR pr F)(m:Int):RC pr F AV.bool JHz 140 [] m:=by
 intro H rw n s r M hlt hr _ hd;have he:=@JgI s r;have hre:=hr.enter O;refine⟨⟨(Yz s r).code == 0,Yz s r,rw⟩,⟨hre.nx O (λh=>(JgJ h).1),Rx.rfl,?_⟩,?_⟩
 ·simp only;cases h:((Yz s r).code == 0)with
  | true=>rw[beq_iff_eq]at h;have:=JgJ h;exact⟨he.1,he.2,h,this.1,this.2.1⟩
  | false=>rw[beq_eq_false_iff_ne]at h;exact⟨he.1,he.2,h⟩
 ·have:=Jsk (rw:=rw) L (Kh (L:=M) hlt) hr
  rwa [Z0]at this
theorem Vw(L:LibR pr F)(m:Int):RC pr F AV.str JTG 135 [] m:=by
 intro H rw n s r M hlt hr _ _;obtain⟨o,⟨hA,hl,hc⟩,hd⟩:=JGj (rw:=rw) L (Kh (b:=blk s r) (L:=M) hlt) hr;refine⟨⟨o.x,o.r,rw⟩,⟨hA.ok.nx hA.mono hA.code,Rx.rfl,hA.deep,⟨hl,λh=>?_⟩,λh=>(hc h).1⟩,?_⟩
 ·have:=(hc h).2;simp only;rw[this]
 ·rwa [Z0]at hd
def exP(_:Src)(r:Rd)(x:Xp)(r':Rd):Prop:=r'.deep=r.deep/\(r'.code=0->r.i<r'.i/\(Zw x:Int)<=8100*(r'.i-r.i))/\(r'.code=0->X4 x)
theorem JjQ(L:LibX pr F){m:Int}(hl:RC pr F (λx:Xp=>AV.agg (Jb x)) exP 228 [.int .i64 0] m):RC pr F (λx:Xp=>AV.agg (Jb x)) exP 193 [] (m+1):=by
 have hm:=L.hm;have cis0:=λx=>KJ L.toLibR 0 O x;have cis1:=λx=>KJ L.toLibR 1 O x;have cis2:=λx=>KJ L.toLibR 2 O x;have cpl:=KW L.toLibR;have ctk:=λx=>Vu L.toLibR x 2000;have cen:=QO L.toLibR 2000;have cnd:=λx=>Vv L.toLibR x 2000;have cfl:=Vt L.toLibR 110 O 2000;have cnm:=Vw L.toLibR 2000;refine VZ hm L.f193.1 L.f193.2 rfl ?_;intro H rw n s r hlt hsm hok _ _ _ _ _;have hR:Rx rw rw:=Rx.rfl;refine' hG
 ·refine Je rfl rfl rfl ?_;refine KU (hl) hlt Aa O O ?_;intro x1 r1 rw_r1 hR' hok_r1 _ _ _ _ _ hP_x1;replace hR:=hR.trans hR';obtain⟨_,_,hP_x1⟩:=hP_x1;refine K7 ?_;refine' hG;refine J0 hlt rfl rfl (JG x1).load ((JG _).below _) ?_;exact Vi x1 hR rfl ⟨O,O,O,O,O,O⟩ ⟨O,O,λh=>hP_x1 O⟩
 ·refine J0 hlt rfl rfl (JG (.mk [] [] [] [] 0)).load ((JG _).below _) ?_;exact Vi (.mk [] [] [] [] 0) hR rfl ⟨O,O,O,O,O,O⟩ ⟨O,O,λh=>O⟩
theorem Jsl(L:LibX pr F)(S:St)(x:Jk):Det pr F 201 [.str x] S (.ret (.int .i64 (KO x))) S:=by
 have hm:=L.hm;obtain⟨H,rw⟩:=S;refine Det.of hm (Jt hm L.f201.1 L.f201.2 rfl ?_);refine' hG;all_goals
  refine Js rfl rfl (AI) ⟨?_,rfl⟩;simp only[Res.ret.injEq,AV.int.injEq,true_and,KO]
 all_goals first |(subst hq;rfl) |simp only[*,or_self,if_false]
def JtK(k:Int)(s:Src)(r:Rd)(x:Jk):Prop:=x≠[]->r.code=0/\r.i<s.toks.length/\x.length<=8000/\KO x=k
theorem Jyj(L:LibX pr F)(k:Int):RQ pr F AV.str (JtK k) 245 [.int .i64 k]:=by
 intro H rw n s r M hlt hr;have hm:=L.hm;refine YY (r:=λx=>.ret (AV.str x)) hm ?_;have hn:(hp H n (blk s r) M)[n]? = some (blk s r):=Kh hlt;generalize hp H n (blk s r) M=H' at hn;refine Jt hm L.f245.1 L.f245.2 rfl ?_;have hsm:=s.small;have hnone:JtK k s r []:=λh=>absurd rfl h;obtain⟨j,hj⟩:=CB hr.lo;have hn1:=hn;simp only[blk,hj]at hn1;by_cases h0:r.code=0
 ·rw[h0]at hn1;by_cases h1:j<s.toks.length
  ·have e1:s.toks[j]? = some s.toks[j]:=Ab h1;have e2:(s.toks.map Tok.row)[j]? = some (Tok.row s.toks[j]):=by rw[Ax,e1];rfl
   have hsz:=s.hsz (by intro h;rw[h]at h1;simp at h1);rw[hsz]at hn1;have hd1:=Jsl L ⟨H',rw⟩ s.toks[j].text;by_cases hq:KO s.toks[j].text=k
   ·have hsome:JtK k s r s.toks[j].text:=λ_=>⟨h0,O,(s.txt _ (DG h1)).1,hq⟩
    refine' hG;exact Js rfl rfl (AI) ⟨_,hsome,rfl,rfl⟩
   ·refine' hG;exact Js rfl rfl (AI) ⟨_,hnone,rfl,rfl⟩
  ·refine' hG;exact Js rfl rfl (AI) ⟨_,hnone,rfl,rfl⟩
 ·refine' hG;exact Js rfl rfl (AI) ⟨_,hnone,rfl,rfl⟩
def Z7(l:List (Jk×Int)):List Xp:=l.map λp=>.mk p.1 [] [] [] p.2
def wS:List (Jk×Int)->Nat
 | []=>0
 | p::l=>1+p.1.length+wS l
theorem Jsm(a b:List (Jk×Int)):wS (a++b)=wS a+wS b:=by
 induction a with
 | nil=>simp[wS]
 | cons x xs ih=>simp[wS,ih];omega
theorem Jkr{ss:List (Jk×Int)}{i:Nat}{p:Jk×Int}(h:ss[i]? = some p):(Ja (Z7 ss))[i]? = some (Jb (.mk p.1 [] [] [] p.2)):=by simp[KB,Z7,h]
theorem JlJ{xs:List Xp}{i:Nat}{x:Xp}(h:xs[i]? = some x):(Ja xs)[i]? = some (Jb x):=by simp[KB,h]
theorem JbK(xs:List Xp)(i:Nat)(x:Xp)(h:xs[i]? = some x):KQ (xs.take (i+1))=KQ (xs.take i)+Zw x/\KQ (xs.drop i)=Zw x+KQ (xs.drop (i+1)):=by
 induction xs generalizing i with
 | nil=>simp at h
 | cons y ys ih=>
  cases i with
  | zero=>simp at h;subst h;simp[KQ]
  | succ i=>simp only[BA]at h;have:=ih i h;simp only[Ay,KQ,Az];exact⟨O,this.2⟩
theorem Jnj(xs:List (Jk×Int))(i:Nat)(x:Jk×Int)(h:xs[i]? = some x):wS (xs.take (i+1))=wS (xs.take i)+(1+x.1.length)/\wS (xs.drop i)=1+x.1.length+wS (xs.drop (i+1)):=by
 induction xs generalizing i with
 | nil=>simp at h
 | cons y ys ih=>
  cases i with
  | zero=>simp at h;subst h;simp[wS]
  | succ i=>simp only[BA]at h;have:=ih i h;simp only[Ay,wS,Az];exact⟨O,this.2⟩
def Jdk:IC:=(.seq (.seq JtJ (.cond (.tmp 57) (.seq JqH (.seq (.seq JqI (.block 2 (.loop [4,5,6,7,8] (.seq (.seq JqJ (.cond (.tmp 68) (.skip) (.exit 2))) (.seq (.block 3 JqK) JqL))))) (.seq JqM .ret))) (.skip))) (.seq JqN (.seq (.seq JqO (.block 4 (.loop [4,5,6,9,10] (.seq (.seq JqP (.cond (.tmp 95) (.skip) (.exit 4))) (.seq (.block 5 JqQ) JqR))))) (.seq JqS .ret))))
theorem JHA(L:LibX pr F){m:Int}(hl:RC pr F (λx:Xp=>AV.agg (Jb x)) exP 244 [] m):RC pr F (λx:Xp=>AV.agg (Jb x)) exP 228 [.int .i64 6] m:=by have hm:=L.hm;have cis0:=λx=>KJ L.toLibR 0 O x;have cis1:=λx=>KJ L.toLibR 1 O x;have cis2:=λx=>KJ L.toLibR 2 O x;have cpl:=KW L.toLibR;have ctk:=λx=>Vu L.toLibR x 2000;have cen:=QO L.toLibR 2000;have cnd:=λx=>Vv L.toLibR x 2000;have cfl:=Vt L.toLibR 110 O 2000;have cnm:=Vw L.toLibR 2000;refine VZ hm L.f228.1 L.f228.2 rfl ?_;intro H rw n s r hlt hsm hok _ _ _ _ _;have hR:Rx rw rw:=Rx.rfl;refine' hG;refine Je rfl rfl rfl ?_;refine KU (hl) hlt Aa O O ?_;intro x1 r1 rw_r1 hR' hok_r1 _ _ _ _ _ hP_x1;replace hR:=hR.trans hR';obtain⟨_,_,hP_x1⟩:=hP_x1;refine K7 ?_;refine' hG;refine J0 hlt rfl rfl (JG x1).load ((JG _).below _) ?_;exact Vi x1 hR rfl (hok_r1.nx O O) ⟨O,O,hP_x1⟩
structure LevelEnd(k:Int)(s:Src)(r:Rd)(rw:List Nat)(r':Rd)(rw':List Nat)(xs:List Xp)(ss:List (Jk×Int)):Prop where
 ok:Rok s r'
 mono:r.i<=r'.i
 deep:r'.deep=r.deep
 code:r'.code=0->r.code=0
 rx:Rx rw rw'
 len:xs.length=ss.length+1
 few:(ss.length:Int)<=r'.i-r.i
 wt:r'.code=0->r.i<r'.i/\(KQ xs+wS ss:Int)<=8100*(r'.i-r.i)
 okx:r'.code=0->QU xs
 oks:∀ p∈ss,KO p.1=k
theorem Jdl{xs:List Xp}{i:Nat}{x:Xp}(h:QU xs)(hx:xs[i]? = some x):X4 x:=by
 induction xs generalizing i with
 | nil=>simp at hx
 | cons y ys ih=>
  cases i with
  | zero=>simp at hx;subst hx;exact h.1
  | succ i=>exact ih h.2 (by simpa using hx)
theorem JtL{k:Int}(hk:0<=k){op:Jk}{a b:Xp}{at_:Int}(h:KO op=k)(ha:X4 a)(hb:X4 b):X4 (.mk op [] [a,b] [] at_):=by
 simp only[X4,QU,XW,and_true];refine⟨?_,ha,hb⟩;unfold Jnc
 iterate 10 apply Or.inr
 exact⟨O,⟨a,b,rfl⟩,rfl,rfl⟩
theorem Jpf(hm:Yy pr){H:List Blk}{n:Nat}(hlt:n<H.length){s:Src}{r r':Rd}{rw rw':List Nat}{xs:List Xp}{ss:List (Jk×Int)}(hr:Rok s r)(k:Int)(hk0:0<=k)(h:LevelEnd k s r rw r' rw' xs ss)(tag tag2:Tag)(sz2:Nat)(hsz:ss≠[]->sz2=5) :
  At pr F H.length (fin [RVar.cell 4 (some 5)] H.length (Jni (λx:Xp=>AV.agg (Jb x)) exP H n s r rw)) Jdk []
   [(0,.ptr n 0),(1,.int .i64 k),(4,.ptr (H.length+0) 0),(5,.list 5 tag (Ja xs)),(6,.list sz2 tag2 (Ja (Z7 ss))),(32,.bool false)] ⟨hp H n (blk s r') [.cells (Jb (.mk [] [] [] [] 0))],rw'⟩:=by
 have hsm:=s.small;have e1:(Ja (Z7 ss)).length=ss.length:=by simp[JV,Z7]
 have e2:(Ja xs).length=xs.length:=JV xs;have hlen:=h.len;have hfew:=h.few;have hi1:=h.ok.hi;have hi0:=h.mono;have hi2:=hr.lo;have hend:∀ u:Xp,Zw u=KQ xs+wS ss->(r'.code=0->X4 u)->Jni (λx:Xp=>AV.agg (Jb x)) exP H n s r rw (.ret (.agg (Jb u))) ⟨hp H n (blk s r') [],rw'⟩:=by intro u hu ho;have hd:=h.deep;have hw:=h.wt;have hcd:=h.code;exact Vi u h.rx rfl (h.ok.nx O hcd) ⟨hd,λh0=>by have:=hw h0;omega,ho⟩
 unfold Jdk;by_cases hk:k=0
 ·obtain⟨x,hx⟩:∃ x,xs[ss.length]? = some x:=⟨_,Ab O⟩
  have hx2:=JlJ hx;refine' hG;refine JB hm (λm e S'=>∃(u:Xp) (C:List AV),Jh C=Jb u/\C.length=5/\S'=⟨hp H n (blk s r') [.cells (Jb (.mk [] [] [] [] 0)),.cells C],rw'⟩/\m<=ss.length/\Zw u=KQ (xs.drop m)+wS (ss.drop m)/\(r'.code=0->X4 u) /\
   e=[(4,.ptr (H.length+0) 0),(5,.list 5 tag (Ja xs)),(6,.list sz2 tag2 (Ja (Z7 ss))),(7,.ptr (H.length+1) 0),(8,.int .i64 ((m:Int)-1))]) ?_ (m:=ss.length) ⟨x,Jb x,(JG x).can,(JG x).len,rfl,Ao _,?_,λh0=>Jdl (h.okx h0) hx,?_⟩
  ·rintro m e S' ⟨u,C,hC,hCl,rfl,hms,hu,hou,rfl⟩;by_cases h0:m=0
   ·subst h0;refine' hG;refine J0 hlt rfl rfl (JG u).load ((JG _).below _) (hend u ?_ hou);rw[hu];simp
   ·obtain⟨j,rfl⟩:∃ j,m=j+1:=⟨m-1,O⟩
    have hsz2:sz2=5:=hsz (by intro h;rw[h]at hms;simp at hms);subst hsz2;obtain⟨y,hy⟩:∃ x,xs[j]? = some x:=⟨_,Ab O⟩
    obtain⟨p,hp'⟩:∃ x,ss[j]? = some x:=⟨_,Ab O⟩
    have hy2:=JlJ hy;have hp2:=Jkr hp';refine' hG;refine⟨j,O,.mk p.1 [] [y,u] [] p.2,_,?_,rfl,rfl,O,?_,?_,?_⟩
    ·simp only[overlay,Jh,JI,JJ,Jx,Jb,Ja,Jo,Ke,Ay,AL,Az,AA,Ap,AC,Au,Ar,Aw,Ad,Af,Nat.reduceAdd,AF,JN,JO,JP];rfl
    ·have h1:=(JbK xs j y hy).2;have h2:=(Jnj ss j p hp').2;simp only[Zw,KQ,Vr,Af];omega
    ·intro h0;exact JtL hk0 (h.oks p (Aq hp')) (Jdl (h.okx h0) hy) (hou h0)
    ·rw[show(((j+1:Nat):Int)-1-1)=(j:Int)-1 by omega];rfl
  ·have:=(JbK xs ss.length x hx).2;rw[this];have e3:xs.drop (ss.length+1)=[]:=AU O;have e4:ss.drop ss.length=[]:=AU O;rw[e3,e4];rfl
  ·simp only[e1];rfl
 ·obtain⟨x,hx⟩:∃ x,xs[0]? = some x:=⟨_,Ab O⟩
  have hx2:=JlJ hx;refine' hG;refine JB hm (λm e S'=>∃(u:Xp) (C:List AV) (i:Nat),Jh C=Jb u/\C.length=5/\S'=⟨hp H n (blk s r') [.cells (Jb (.mk [] [] [] [] 0)),.cells C],rw'⟩/\m+i=ss.length/\Zw u=KQ (xs.take (i+1))+wS (ss.take i)/\(r'.code=0->X4 u) /\
   e=[(4,.ptr (H.length+0) 0),(5,.list 5 tag (Ja xs)),(6,.list sz2 tag2 (Ja (Z7 ss))),(9,.ptr (H.length+1) 0),(10,.int .i64 i)]) ?_ (m:=ss.length) ⟨x,Jb x,0,(JG x).can,(JG x).len,rfl,rfl,?_,λh0=>Jdl (h.okx h0) hx,rfl⟩
  ·rintro m e S' ⟨u,C,i,hC,hCl,rfl,hms,hu,hou,rfl⟩;by_cases h0:i<ss.length
   ·have hsz2:sz2=5:=hsz (by intro h;rw[h]at h0;simp at h0);subst hsz2;obtain⟨y,hy⟩:∃ x,xs[i+1]? = some x:=⟨_,Ab O⟩
    obtain⟨p,hp'⟩:∃ x,ss[i]? = some x:=⟨_,Ab O⟩
    have hy2:=JlJ hy;have hp2:=Jkr hp';refine' hG;refine⟨m-1,O,.mk p.1 [] [u,y] [] p.2,_,i+1,?_,rfl,rfl,O,?_,?_,rfl⟩
    ·simp only[overlay,Jh,JI,JJ,Jx,Jb,Ja,Jo,Ke,Ay,AL,Az,AA,Ap,AC,Au,Ar,Aw,Ad,Af,Nat.reduceAdd,AF,JN,JO,JP];rfl
    ·have h1:=(JbK xs (i+1) y hy).1;have h2:=(Jnj ss i p hp').1;simp only[Zw,KQ,Vr,Af];omega
    ·intro h0;exact JtL hk0 (h.oks p (Aq hp')) (hou h0) (Jdl (h.okx h0) hy)
   ·have hi:i=ss.length:=by omega
    subst hi;refine' hG;refine J0 hlt rfl rfl (JG u).load ((JG _).below _) (hend u ?_ hou);rw[hu,AB O,AB O]
  ·have:=(JbK xs 0 x hx).1;simp only[wS,AL,KQ]at this |-;omega
theorem QB{K:AV->St->Prop}{rw0 rw:List Nat}{sz by_:Nat}{v:AV}{rows:List (List AV)}{row:List AV}{H:List Blk}(h:Lst rw0 sz v rows rw)(hx:Rx rw0 rw)(hb:(rows.length+1)*by_<=Ji)(hl:rows.length+1<=Ji)(hs:0<sz)
  (hk:∀ v' rw',Lst rw0 sz v' (rows++[row]) rw'->Rx rw0 rw'->K v' ⟨H,rw'⟩):ApAt sz by_ v (.list sz .full [row]) ⟨H,rw⟩ K:=by
 obtain⟨v',rw',h1,h2,h3⟩:=h.push (H:=H) (row:=row) hx hb hl hs;exact⟨_,_,h1,hk v' rw' h2 h3⟩
theorem JhC{K:AV->St->Prop}{rw0 rw:List Nat}{sz by_:Nat}{v:AV}{rows:List (List AV)}{row:List AV}{H:List Blk}(h:Lst rw0 sz v rows rw)(hx:Rx rw0 rw)(hb:(rows.length+1)*by_<=Ji)(hl:rows.length+1<=Ji)(hs:0<sz)
  {sz2:Nat} {v2:AV} {rows2:List (List AV)} (h2:Lst rw0 sz2 v2 rows2 rw) (hd:Disj v v2)
  (hk:∀ v' rw',Lst rw0 sz v' (rows++[row]) rw'->Rx rw0 rw'->Lst rw0 sz2 v2 rows2 rw'->Disj v' v2->K v' ⟨H,rw'⟩):ApAt sz by_ v (.list sz .full [row]) ⟨H,rw⟩ K:=by
 obtain⟨v',rw',h1,h3,h4,h5,h6⟩:=h.push2 (H:=H) (row:=row) hx hb hl hs h2 hd;exact⟨_,_,h1,hk v' rw' h3 h4 h5 h6⟩
theorem Cl{Q:Prop}(h:Q:=by simp[Ja]):Q:=h
theorem Eg{Q:Prop}(h:Q:=by rw[e1];simp only[Ji];omega):Q:=h
theorem Eh{Q:Prop}(h:Q:=by rw[e2];simp only[Ji];omega):Q:=h
theorem JfN(L:LibX pr F){m:Int}(k:Int)(hk0:0<=k)(hk5:k<=5)(hl:RC pr F (λx:Xp=>AV.agg (Jb x)) exP 228 [.int .i64 (k+1)] m):RC pr F (λx:Xp=>AV.agg (Jb x)) exP 228 [.int .i64 k] m:=by
 have hm:=L.hm;have cis0:=λx=>KJ L.toLibR 0 O x;have cis1:=λx=>KJ L.toLibR 1 O x;have cis2:=λx=>KJ L.toLibR 2 O x;have cpl:=KW L.toLibR;have ctk:=λx=>Vu L.toLibR x 2000;have cen:=QO L.toLibR 2000;have cnd:=λx=>Vv L.toLibR x 2000;have cfl:=Vt L.toLibR 110 O 2000;have cnm:=Vw L.toLibR 2000;refine VZ hm L.f228.1 L.f228.2 rfl ?_;intro H rw n s r hlt hsm hok _ _ _ _ _;have hR:Rx rw rw:=Rx.rfl;refine' hG;refine Je rfl rfl rfl ?_;refine KU (hl) hlt Aa O O ?_;intro x0 r0 rw_r0 hR' hok_r0 _ _ _ _ _ hP_x0;replace hR:=hR.trans hR';obtain⟨_,_,hP_x0⟩:=hP_x0;refine K7 ?_;have ht:=λ(r':Rd) (rw':List Nat) (xs:List Xp) (ss:List (Jk×Int)) (h:LevelEnd k s r rw r' rw' xs ss) (tag tag2:Tag) (sz2:Nat) (hsz:ss≠[]->sz2=5)=>Jpf (pr:=pr) (F:=F) hm hlt hok k hk0 h tag tag2 sz2 hsz;refine' hG;change At pr F H.length _ (IC.loop _ _) [Fr.blk 0,Fr.code Jdk] _ _;generalize Jdk=T at ht |-;refine JB hm (λm e S'=>∃(r':Rd) (rw':List Nat) (l sg:AV) (xs:List Xp) (ss:List (Jk×Int)),S'=⟨hp H n (blk s r') [.cells (Jb (.mk [] [] [] [] 0))],rw'⟩/\LevelEnd k s r rw r' rw' xs ss /\
   Lst rw 5 l (Ja xs) rw'/\Lst rw 5 sg (Ja (Z7 ss)) rw'/\Disj l sg/\(m:Int)=s.toks.length-r'.i /\
   e=[(0,.ptr n 0),(1,.int .i64 k),(4,.ptr (H.length+0) 0),(5,l),(6,sg)]) ?_ (m:=(s.toks.length-r0.i).toNat) ⟨r0,rw_r0,_,_,[x0],[],rfl,⟨hok_r0,O,O,O,hR,rfl,AR,?_,λh=>⟨hP_x0 h,trivial⟩,Ag⟩,.lit Cl,.nil,λa ha=>by simp[JdH]at ha,O,rfl⟩
 ·rintro m' e S' ⟨r',rw',l,sg,xs,ss,rfl,hend,hl1,hs1,hdj,hmm,rfl⟩;have hx:=Jyj L k;have hok':=hend.ok;have hA1:=hok'.hi;have hA2:=hend.mono;have hA3:=hend.deep;have hA4:=hend.code;have hR2:=hend.rx;have hfew:=hend.few;have hlen:=hend.len;have hwt:=hend.wt;clear hok_r0 hP_x0 hR cpl;have e1:(Ja (Z7 ss)).length=ss.length:=by simp[JV,Z7]
  have e2:(Ja xs).length=xs.length:=JV xs;obtain⟨sz',tag,rfl,hsz1,hsz2⟩:=hs1.tag;obtain⟨sz1,tag1,rfl,hsz3,-⟩:=hl1.tag;have hsz4:sz1=5:=hsz3 (by intro h;rw[<- JV,h]at hlen;simp at hlen);subst hsz4;have hsz5:ss≠[]->sz'=5:=λh=>hsz1 (by intro h2;rw[h2]at e1;simp at e1;exact h (List.eq_nil_of_length_eq_zero e1.symm));obtain⟨x,hxP,hd⟩:=hx H rw' n s r' [.cells (Jb (.mk [] [] [] [] 0))] hlt hok';have next:∀(pl:Int) (r1:Rd) (rw3 rw4:List Nat) (x1:Xp),r'.code=0->x.length<=8000->KO x=k->Rok s r1->r'.i+1<=r1.i->r1.deep=r'.deep->Rx rw rw4->(r1.code=0->r'.i+1<r1.i/\(Zw x1:Int)<=8100*(r1.i-(r'.i+1)))->(r1.code=0->X4 x1)->LevelEnd k s r rw r1 rw4 (xs++[x1]) (ss++[(x,pl)]):=by
   intro pl r1 rw3 rw4 x1 h0 hx6 hxk ok1 hi1 hd1 hR4 hw1 ho1;refine⟨ok1,O,O,λ_=>hA4 h0,hR4,AR,AR,λh1=>?_,λh1=>?_,?_⟩
   ·have:=hw1 h1;have:=hwt h0;rw[JaR,Jsm];simp only[KQ,wS];omega
   ·rw[Jag];exact⟨hend.okx h0,ho1 h1,trivial⟩
   ·intro p hp;rcases AM.1 hp with h |h
    ·exact hend.oks p h
    ·rw[AN]at h;subst h;exact hxk
  by_cases hxe:x=[]
  ·refine' hG;exact ht r' rw' xs ss hend tag1 tag sz' hsz5
  ·obtain⟨hx1,hx2,hx3,hx4⟩:=hxP hxe;by_cases hk3:k=3/\ss.length≠0
   ·obtain⟨hk3,hse⟩:=hk3;refine' hG;exact ht r' rw' xs ss hend tag1 tag sz' hsz5
   ·by_cases hk3':k=3
    ·have hse:ss.length=0:=by omega
     clear hk3;refine' hG;refine Je rfl rfl rfl ?_;refine Jhc (KW L.toLibR) hlt Aa ?_;intro pl _;refine K7 ?_;refine' hG;refine JW rfl rfl rfl ?_;refine JhC (row:=Jb (.mk x [] [] [] pl)) hs1 hR2 Eg Eg O hl1 hdj.symm ?_;intro sg2 rw2 hs2 hR3 hl2 hdj2;refine K7 ?_;refine' hG;refine Je rfl rfl rfl ?_;refine KU hl hlt Aa O O ?_;intro x1 r1 rw3 hR4 hok1 _ _ _ _ _ hP1;obtain⟨hP1,hP2,hP3⟩:=hP1;refine K7 ?_;refine' hG;refine JW rfl rfl rfl ?_;refine JhC (hl2.ext hR4) (hR3.trans hR4) Eh Eh O (hs2.ext hR4) hdj2.symm ?_;intro l4 rw4 hl4 hR5 hs4 hdj4;refine K7 ?_;refine' hG;refine⟨(s.toks.length-r1.i).toNat,O,r1,rw4,l4,sg2,xs++[x1],ss++[(x,pl)],rfl,next pl r1 rw3 rw4 x1 hx1 hx3 hx4 hok1 O O hR5 (λh=>by have:=hP2 h;omega) hP3,by rw[V3];exact hl4,?_,hdj4,O,rfl⟩;rw[show Ja (Z7 (ss++[(x,pl)]))=Ja (Z7 ss)++[Jb (.mk x [] [] [] pl)] by simp[Z7,KB]];exact hs4
    ·clear hk3;refine' hG;refine Je rfl rfl rfl ?_;refine Jhc (KW L.toLibR) hlt Aa ?_;intro pl _;refine K7 ?_;refine' hG;refine JW rfl rfl rfl ?_;refine JhC (row:=Jb (.mk x [] [] [] pl)) hs1 hR2 Eg Eg O hl1 hdj.symm ?_;intro sg2 rw2 hs2 hR3 hl2 hdj2;refine K7 ?_;refine' hG;refine Je rfl rfl rfl ?_;refine KU hl hlt Aa O O ?_;intro x1 r1 rw3 hR4 hok1 _ _ _ _ _ hP1;obtain⟨hP1,hP2,hP3⟩:=hP1;refine K7 ?_;refine' hG;refine JW rfl rfl rfl ?_;refine JhC (hl2.ext hR4) (hR3.trans hR4) Eh Eh O (hs2.ext hR4) hdj2.symm ?_;intro l4 rw4 hl4 hR5 hs4 hdj4;refine K7 ?_;refine' hG;refine⟨(s.toks.length-r1.i).toNat,O,r1,rw4,l4,sg2,xs++[x1],ss++[(x,pl)],rfl,next pl r1 rw3 rw4 x1 hx1 hx3 hx4 hok1 O O hR5 (λh=>by have:=hP2 h;omega) hP3,by rw[V3];exact hl4,?_,hdj4,O,rfl⟩;rw[show Ja (Z7 (ss++[(x,pl)]))=Ja (Z7 ss)++[Jb (.mk x [] [] [] pl)] by simp[Z7,KB]];exact hs4
 ·intro h;simp only[KQ,wS];omega
abbrev LX:=LT (α:=Xp) 5 Ja
def LT.nil{α:Type}{sz:Nat}{rows:List α->List (List AV)}(h:rows []=[]):LT sz rows:=⟨.list 0 .full [],[],by rw[h];exact IsL.nil⟩
def Jyk(_:Src)(r:Rd)(l:LX)(r':Rd):Prop:=r'.deep=r.deep/\((l.xs.length:Int)<=r'.i-r.i+1/\(r'.code=0->r.i<r'.i/\(KQ l.xs:Int)<=8100*(r'.i-r.i)))/\(r'.code=0->QU l.xs)
def JtM(_:Src)(r:Rd)(l:LX)(r':Rd):Prop:=r'.deep=r.deep/\(r'.code=0->(KQ l.xs:Int)<=8100*(r'.i-r.i))/\(r'.code=0->QU l.xs/\l.xs.length<=1)
theorem Jnk(L:LibX pr F){m:Int}(hl:RC pr F (λx:Xp=>AV.agg (Jb x)) exP 193 [] m):RC pr F LT.v Jyk 195 [] m:=by
 have hm:=L.hm;have cis0:=λx=>KJ L.toLibR 0 O x;have cis1:=λx=>KJ L.toLibR 1 O x;have cis2:=λx=>KJ L.toLibR 2 O x;have cpl:=KW L.toLibR;have ctk:=λx=>Vu L.toLibR x 2000;have cen:=QO L.toLibR 2000;have cnd:=λx=>Vv L.toLibR x 2000;have cfl:=Vt L.toLibR 110 O 2000;have cnm:=Vw L.toLibR 2000;refine VZ hm L.f195.1 L.f195.2 rfl ?_;intro H rw n s r hlt hsm hok _ _ _ _ _;have hR:Rx rw rw:=Rx.rfl;refine' hG
 ·refine Js rfl rfl (JR hlt) ?_;exact Vi (LT.nil rfl) hR rfl (Rok.nx Aa O O) ⟨O,by simp only[LT.nil,KQ,Af];omega,λ_=>trivial⟩
 ·refine JB hm (λm e S'=>∃(r':Rd) (rw':List Nat) (l:AV) (xs:List Xp),S'=⟨hp H n (blk s r') [],rw'⟩/\Rok s r'/\r.i<=r'.i/\r'.deep=r.deep/\(r'.code=0->r.code=0)/\Rx rw rw'/\Lst rw 5 l (Ja xs) rw'/\(xs.length:Int)<=r'.i-r.i+1 /\
   (r'.code=0->(xs.length:Int)<=r'.i-r.i/\(KQ xs:Int)<=8100*(r'.i-r.i))/\(r'.code=0->QU xs)/\(m:Int)=2*(s.toks.length-r'.i)+(if r'.code=0 then 1 else 0) /\
   e=[(0,.ptr n 0),(3,l)]) ?_ (m:=(2*(s.toks.length-rc.i)+(if rc.code=0 then 1 else 0)).toNat) ⟨rc,rwc,_,[],rfl,Aa,O,O,O,hR,.nil,AR,λ_=>⟨AR,by simp[KQ];omega⟩,λ_=>trivial,Bv,rfl⟩
  rintro m' e S' ⟨r',rw',l,xs,rfl,hok',hA2,hA3,hA4,hR2,hl1,hxl,hwt,hoks,hmm,rfl⟩;have e2:(Ja xs).length=xs.length:=JV xs;have hA1:=hok'.hi;have hA0:=hok'.lo;clear hR;have hR:=hR2;by_cases hc:r'.code=0
  ·obtain⟨hw1,hw2⟩:=hwt hc;rw[if_pos hc]at hmm;refine' hG;refine Je rfl rfl rfl ?_;refine KU (hl) hlt Aa O O ?_;intro x1 r1 rw_r1 hR' hok_r1 _ _ _ _ _ hP_x1;replace hR:=hR.trans hR';obtain⟨_,_,hP_x1⟩:=hP_x1;refine K7 ?_;refine' hG;refine JW rfl rfl rfl ?_;refine QB (hl1.ext Aa) hR Eh Eh O ?_;intro l4 rw4 hl4 hR4;refine K7 ?_;have hrow:Ja (xs++[x1])=Ja xs++[Jb x1]:=V3 xs [x1];rw[<- hrow]at hl4;have hR:=hR4;have hwx:KQ (xs++[x1])=KQ xs+Zw x1:=by rw[JaR];simp[KQ]
   have hox:r1.code=0->QU (xs++[x1]):=λh=>by rw[Jag];exact⟨hoks hc,hP_x1 h,trivial⟩
   have hlx:(xs++[x1]).length=xs.length+1:=Ag;refine' hG
   ·refine Js rfl ?_ (JR hlt) ?_
    ·exact hl4.isL.below _
    ·exact Vi (enc:=LT.v) ⟨l4,xs++[x1],hl4.isL⟩ hR rfl (Rok.nx Aa O O) ⟨O,by simp only[hwx,hlx];omega,λh=>hox O⟩
   ·refine⟨(2*(s.toks.length-rc.i)+(if rc.code=0 then 1 else 0)).toNat,?_,rc,rwc,l4,xs++[x1],rfl,Aa,O,O,O,hR,hl4.ext (Rx.trans Aa hR'),by rw[hlx];omega,?_,λh=>hox O,Bv,rfl⟩
    ·split <;> omega
    ·intro h0;rw[hwx,hlx];omega
  ·refine' hG;refine Js rfl ?_ (JR hlt) ?_
   ·exact hl1.isL.below _
   ·exact Vi (enc:=LT.v) ⟨l,xs,hl1.isL⟩ hR rfl (Rok.nx Aa O O) ⟨O,⟨hxl,λh=>absurd h hc⟩,λh=>absurd h hc⟩
theorem Jyl(L:LibX pr F){m:Int}(hl:RC pr F (λx:Xp=>AV.agg (Jb x)) exP 193 [] m):RC pr F LT.v JtM 227 [] m:=by
 have hm:=L.hm;have cis0:=λx=>KJ L.toLibR 0 O x;have cis1:=λx=>KJ L.toLibR 1 O x;have cis2:=λx=>KJ L.toLibR 2 O x;have cpl:=KW L.toLibR;have ctk:=λx=>Vu L.toLibR x 2000;have cen:=QO L.toLibR 2000;have cnd:=λx=>Vv L.toLibR x 2000;have cfl:=Vt L.toLibR 110 O 2000;have cnm:=Vw L.toLibR 2000;refine VZ hm L.f227.1 L.f227.2 rfl ?_;intro H rw n s r hlt hsm hok _ _ _ _ _;have hR:Rx rw rw:=Rx.rfl;refine' hG
 ·refine Je rfl rfl rfl ?_;refine KU (hl) hlt Aa O O ?_;intro x1 r1 rw_r1 hR' hok_r1 _ _ _ _ _ hP_x1;replace hR:=hR.trans hR';obtain⟨_,_,hP_x1⟩:=hP_x1;refine K7 ?_;refine' hG;refine Js rfl rfl (JR hlt) ?_;exact Vi (enc:=LT.v) ⟨_,[x1],IsL.lit (rows:=Ja [x1]) Cl⟩ hR rfl (Rok.nx Aa O O) ⟨O,by simp only[KQ];omega,λh=>⟨⟨hP_x1 O,trivial⟩,Ag⟩⟩
 all_goals
  refine Js rfl rfl (JR hlt) ?_;exact Vi (enc:=LT.v) (LT.nil rfl) hR rfl (Rok.nx Aa O O) ⟨O,by simp only[LT.nil,KQ];omega,λh=>⟨trivial,by simp[LT.nil]⟩⟩
def tyP(_:Src)(r:Rd)(t:Ty)(r':Rd):Prop:=r'.deep=r.deep/\(r'.code=0->r.i<r'.i/\(wTy t:Int)<=8100*(r'.i-r.i))/\(r'.code=0->JeW t)
structure TyIn(s:Src)(r:Rd)(rw:List Nat)(r':Rd)(rw':List Nat)(t:Ty)(C:List AV):Prop where
 ok:Rok s r'
 mono:r.i<=r'.i
 deep:r'.deep=r.deep+1
 code:r'.code=0->r.code=0
 rx:Rx rw rw'
 can:Jh C=Jl t
 len:C.length=6
 wt:r'.code=0->r.i<r'.i/\(wTy t:Int)<=8100*(r'.i-r.i)
 okt:r'.code=0->JeW t
theorem D{Q:Prop}(h:Q:=by(simp only[J9,overlay,Jh,JH,JI,JJ,Jv,Jx,JL,LT.one,Jb,Jl,Jp,Jf,Jn,Jm,Jw,Jc,Ja,Jo,Jg,Ke,LT.canon,Am,Ay,AL,Az,AA,Ap,AC,Au,Ar,Aw,Ad,Af,Nat.reduceAdd,AF,AE,Nat.reduceLeDiff,Ao,if_true,reduceIte,An,Jr,Jq,JN,JO,JD,JP];try rfl)):Q:=h
theorem JiE(L:LibX pr F){m:Int}(hl:RC pr F LT.v JtM 227 [] m){H:List Blk}{n:Nat}(hlt:n<H.length){s:Src}{r r0:Rd}{rw rw0:List Nat}{t0:Ty}{C0:List AV}{Z:List AV}(hZ:Z.length=6)(hok:Rok s r)(hd0:r.deep<100)(hdm:101<=r.deep+(m+1))(h:TyIn s r rw r0 rw0 t0 C0) :
  At pr F H.length (fin [RVar.cell 2 (some 6)] H.length (Jni (λx:Ty=>AV.agg (Jl x)) tyP H n s r rw))
   (.loop [0,2,3] (.seq (.seq Jqy (.cond (.tmp 27) .skip (.exit 0))) (.block 1 (.seq Jqz (.seq JqA (.seq JqB (.seq JqC (.seq JqD JqE))))))))
   [Fr.blk 0,Fr.code (.seq JqF (.seq JqG .ret))] [(0,.ptr n 0),(2,.ptr (H.length+0) 0),(3,.ptr (H.length+1) 0)] ⟨hp H n (blk s r0) [.cells Z,.cells C0],rw0⟩:=by
 have hm:=L.hm;have cis0:=λx=>KJ L.toLibR 0 O x;have cis1:=λx=>KJ L.toLibR 1 O x;have cis2:=λx=>KJ L.toLibR 2 O x;have cpl:=KW L.toLibR;have ctk:=λx=>Vu L.toLibR x 2000;have cen:=QO L.toLibR 2000;have cnd:=λx=>Vv L.toLibR x 2000;have cfl:=Vt L.toLibR 110 O 2000;have cnm:=Vw L.toLibR 2000;have hsm:=s.small;have hi2:=hok.lo;have hi3:=hok.dlo;have h01:=h.ok.hi;refine JB hm (λm e S'=>∃(r':Rd) (rw':List Nat) (t:Ty) (C:List AV) (J:List Blk),S'=⟨hp H n (blk s r') (.cells Z::.cells C::J),rw'⟩/\TyIn s r rw r' rw' t C/\(m:Int)=s.toks.length-r'.i /\
   e=[(0,.ptr n 0),(2,.ptr (H.length+0) 0),(3,.ptr (H.length+1) 0)]) ?_ (m:=(s.toks.length-r0.i).toNat) ⟨r0,rw0,t0,C0,[],rfl,h,O,rfl⟩
 rintro m' e S' ⟨r',rw',t,C,J,rfl,hin,hmm,rfl⟩;obtain⟨hok',h2,h3,h4,hR,hC,hCl,h8,h9⟩:=hin;have h5:=hok'.lo;have h6:=hok'.hi;have h7:=hok'.dlo;refine' hG
 ·refine Je rfl rfl rfl ?_;refine KU (hl) hlt Aa O O ?_;intro p1 r1 rw_r1 hR' hok_r1 _ _ _ _ _ hP_p1;replace hR:=hR.trans hR';obtain⟨_,_,hP_p1⟩:=hP_p1;refine K7 ?_;refine' hG;refine⟨(s.toks.length-r1.i).toNat,O,r1,rw_r1,.mk 4 [] true [t] p1.xs _,_,_,rfl,⟨Aa,O,O,O,hR,D,rfl,λh=>?_,λh=>?_⟩,O,rfl⟩
  ·have:=h8 O;simp only[wTy,Vr,Af];omega
  ·have:=h9 O;have:=hP_p1 h;rw[JeW];exact⟨.inr (.inr (.inr ⟨rfl,rfl,t,rfl⟩)),this.2,by rw[XW,XW];exact⟨Aa,trivial⟩,this.1⟩
 ·refine Je rfl rfl rfl ?_;refine KU (hl) hlt Aa O O ?_;intro p1 r1 rw_r1 hR' hok_r1 _ _ _ _ _ hP_p1;replace hR:=hR.trans hR';obtain⟨_,_,hP_p1⟩:=hP_p1;refine K7 ?_;refine' hG;refine⟨(s.toks.length-r1.i).toNat,O,r1,rw_r1,.mk 4 [] false [t] p1.xs _,_,_,rfl,⟨Aa,O,O,O,hR,D,rfl,λh=>?_,λh=>?_⟩,O,rfl⟩
  ·have:=h8 O;simp only[wTy,Vr,Af];omega
  ·have:=h9 O;have:=hP_p1 h;rw[JeW];exact⟨.inr (.inr (.inr ⟨rfl,rfl,t,rfl⟩)),this.2,by rw[XW,XW];exact⟨Aa,trivial⟩,this.1⟩
 ·refine J0 hlt rfl rfl (K9 t).load ((K9 _).below _) ?_;exact Vi t hR rfl (Rok.nx Aa O O) ⟨O,λh=>by have:=h8 O;omega,λh=>h9 O⟩
theorem AJ{Q:Prop}(h:Q:=by simp only[J9,overlay,Jh,JH,JI,JJ,Jv,Jx,JL,LT.one,Jb,Jl,Jp,Jf,Jn,Jm,Jw,Jc,Ja,Jo,Jg,Ke,LT.canon,Am,Ay,AL,Az,AA,Ap,AC,Au,Ar,Aw,Ad,Af,Nat.reduceAdd,AF,AE,Nat.reduceLeDiff,Ao,if_true,reduceIte,An,Jr,Jq,JN,JO,JD,JP];rfl):Q:=h
theorem JHB(L:LibX pr F){m:Int}(hl:RC pr F LT.v JtM 227 [] m):RC pr F (λx:Ty=>AV.agg (Jl x)) tyP 192 [] (m+1):=by
 have hm:=L.hm;have cis0:=λx=>KJ L.toLibR 0 O x;have cis1:=λx=>KJ L.toLibR 1 O x;have cis2:=λx=>KJ L.toLibR 2 O x;have cpl:=KW L.toLibR;have ctk:=λx=>Vu L.toLibR x 2000;have cen:=QO L.toLibR 2000;have cnd:=λx=>Vv L.toLibR x 2000;have cfl:=Vt L.toLibR 110 O 2000;have cnm:=Vw L.toLibR 2000;refine VZ hm L.f192.1 L.f192.2 rfl ?_;intro H rw n s r hlt hsm hok _ _ _ _ _;have hR:Rx rw rw:=Rx.rfl;refine' hG
 ·refine Je rfl rfl rfl ?_;refine KU (hl) hlt Aa O O ?_;intro p1 r1 rw_r1 hR' hok_r1 _ _ _ _ _ hP_p1;replace hR:=hR.trans hR';obtain⟨_,_,hP_p1⟩:=hP_p1;refine K7 ?_;refine' hG;refine JiE L hl hlt rfl hok O O (t0:=.mk 1 [] false [] p1.xs _) ⟨Aa,O,O,O,hR,AJ,rfl,λh=>?_,λh=>?_⟩
  ·simp only[wTy,Vr,Af];omega
  ·have:=hP_p1 h;rw[JeW];exact⟨.inl ⟨rfl,rfl,rfl,rfl⟩,this.2,by rw[XW];trivial,this.1⟩
 ·refine Je rfl rfl rfl ?_;refine KU (hl) hlt Aa O O ?_;intro p1 r1 rw_r1 hR' hok_r1 _ _ _ _ _ hP_p1;replace hR:=hR.trans hR';obtain⟨_,_,hP_p1⟩:=hP_p1;refine K7 ?_;refine' hG;refine JiE L hl hlt rfl hok O O (t0:=.mk 2 [] false [] p1.xs _) ⟨Aa,O,O,O,hR,AJ,rfl,λh=>?_,λh=>?_⟩
  ·simp only[wTy,Vr,Af];omega
  ·have:=hP_p1 h;rw[JeW];exact⟨.inr (.inl ⟨rfl,rfl,rfl,rfl⟩),this.2,by rw[XW];trivial,this.1⟩
 ·refine Je rfl rfl rfl ?_;refine KU (cnm) hlt Aa O O ?_;intro x1 r1 rw_r1 hR' hok_r1 _ _ _ _ _ hP_x1;replace hR:=hR.trans hR';obtain⟨_,_,hP_x1⟩:=hP_x1;refine K7 ?_;refine' hG;all_goals
   refine Je rfl rfl rfl ?_;refine KU (hl) hlt Aa O O ?_;intro p1 r2 rw_r2 hR' hok_r2 _ _ _ _ _ hP_p1;replace hR:=hR.trans hR';obtain⟨_,_,hP_p1⟩:=hP_p1;refine K7 ?_;refine' hG;refine JiE L hl hlt rfl hok O O (t0:=.mk 3 x1 _ [] p1.xs _) ⟨Aa,O,O,O,hR,AJ,rfl,λh=>?_,λh=>?_⟩
   ·simp only[wTy,Vr];omega
   ·have:=hP_p1 h;have hx:=hP_x1 O;rw[JeW];exact⟨.inr (.inr (.inl ⟨rfl,rfl,hx⟩)),this.2,by rw[XW];trivial,this.1⟩
 ·refine J0 hlt rfl rfl (v:=.agg (Jl (.mk 0 [] false [] [] _))) D ((K9 _).below _) ?_;exact Vi (.mk 0 [] false [] [] _) hR rfl (Rok.nx Aa O O) ⟨O,λh=>O,λh=>O⟩
theorem Y0{op nm:Jk}{args:List Xp}{ty:List Ty}{a:Int}(h:Jnc op nm args ty)(h1:QU args)(h2:XW ty):X4 (.mk op nm args ty a):=by rw[X4];exact⟨h,h1,h2⟩
theorem VB:QU []:=trivial
theorem KI:XW []:=by rw[XW];trivial
theorem Xt{a:Xp}(h:X4 a):QU [a]:=by rw[QU,QU];exact⟨h,trivial⟩
theorem JhD{a b:Xp}(h:X4 a)(h':X4 b):QU [a,b]:=by rw[QU,QU,QU];exact⟨h,h',trivial⟩
theorem JqV{a:Ty}(h:JeW a):XW [a]:=by rw[XW,XW];exact⟨h,trivial⟩
theorem Jpg(L:LibX pr F){m:Int}(hx:RC pr F (λx:Xp=>AV.agg (Jb x)) exP 193 [] m)(hxs:RC pr F LT.v Jyk 195 [] m)(ht:RC pr F (λx:Ty=>AV.agg (Jl x)) tyP 192 [] m):RC pr F (λx:Xp=>AV.agg (Jb x)) exP 253 [] m:=by
 have hm:=L.hm;have cis0:=λx=>KJ L.toLibR 0 O x;have cis1:=λx=>KJ L.toLibR 1 O x;have cis2:=λx=>KJ L.toLibR 2 O x;have cpl:=KW L.toLibR;have ctk:=λx=>Vu L.toLibR x 2000;have cen:=QO L.toLibR 2000;have cnd:=λx=>Vv L.toLibR x 2000;have cfl:=Vt L.toLibR 110 O 2000;have cnm:=Vw L.toLibR 2000;refine VZ hm L.f253.1 L.f253.2 rfl ?_;intro H rw n s r hlt hsm hok _ _ _ _ _;have hR:Rx rw rw:=Rx.rfl;refine' hG
 ·refine J0 hlt rfl rfl (v:=.agg (Jb (.mk [] [] [] [] _))) D ((JG _).below _) ?_;refine Vi (.mk [] [] [] [] _) hR rfl (Rok.nx Aa O O) ⟨O,?_,?_⟩
  ·simp only[Zw,KQ,Vr,Af];omega
  ·intro h;omega
 ·refine J0 hlt rfl rfl (v:=.agg (Jb (.mk [] [] [] [] _))) D ((JG _).below _) ?_;refine Vi (.mk [] [] [] [] _) hR rfl (Rok.nx Aa O O) ⟨O,?_,?_⟩
  ·simp only[Zw,KQ,Vr,Af];omega
  ·intro h;omega
 ·refine J0 hlt rfl rfl (v:=.agg (Jb (.mk [110,117,109] tk.text [] [] _))) D ((JG _).below _) ?_;refine Vi (.mk [110,117,109] tk.text [] [] _) hR rfl (Rok.nx Aa O O) ⟨O,?_,?_⟩
  ·simp only[Zw,KQ,Vr,Af,Ad];omega
  ·exact λ_=>Y0 (.inl ⟨rfl,rfl,rfl,(s.txt tk (Aq Aa)).2 Aa⟩) VB KI
 ·refine J0 hlt rfl rfl (v:=.agg (Jb (.mk tk.text [] [] [] _))) D ((JG _).below _) ?_;refine Vi (.mk tk.text [] [] [] _) hR rfl (Rok.nx Aa O O) ⟨O,?_,?_⟩
  ·simp only[Zw,KQ,Vr,Af];omega
  ·exact λ_=>Y0 (.inr (.inr (.inl ⟨.inl Aa,rfl,rfl,rfl⟩))) VB KI
 ·refine J0 hlt rfl rfl (v:=.agg (Jb (.mk tk.text [] [] [] _))) D ((JG _).below _) ?_;refine Vi (.mk tk.text [] [] [] _) hR rfl (Rok.nx Aa O O) ⟨O,?_,?_⟩
  ·simp only[Zw,KQ,Vr,Af];omega
  ·exact λ_=>Y0 (.inr (.inr (.inl ⟨.inr (.inl Aa),rfl,rfl,rfl⟩))) VB KI
 ·refine J0 hlt rfl rfl (v:=.agg (Jb (.mk tk.text [] [] [] _))) D ((JG _).below _) ?_;refine Vi (.mk tk.text [] [] [] _) hR rfl (Rok.nx Aa O O) ⟨O,?_,?_⟩
  ·simp only[Zw,KQ,Vr,Af];omega
  ·exact λ_=>Y0 (.inr (.inr (.inl ⟨.inr (.inr (.inl Aa)),rfl,rfl,rfl⟩))) VB KI
 ·refine J0 hlt rfl rfl (v:=.agg (Jb (.mk tk.text [] [] [] _))) D ((JG _).below _) ?_;refine Vi (.mk tk.text [] [] [] _) hR rfl (Rok.nx Aa O O) ⟨O,?_,?_⟩
  ·simp only[Zw,KQ,Vr,Af];omega
  ·exact λ_=>Y0 (.inr (.inr (.inl ⟨.inr (.inr (.inr (.inl Aa))),rfl,rfl,rfl⟩))) VB KI
 ·refine Je rfl rfl rfl ?_;refine KU (hx) hlt Aa O O ?_;intro x1 r1 rw_r1 hR' hok_r1 _ _ _ _ _ hP_x1;replace hR:=hR.trans hR';obtain⟨_,_,hP_x1⟩:=hP_x1;refine K7 ?_;refine' hG;refine J0 hlt rfl rfl (JG x1).load ((JG _).below _) ?_;exact Vi x1 hR rfl (Rok.nx Aa O O) ⟨O,O,λh=>hP_x1 O⟩
 ·refine Je rfl rfl rfl ?_;refine KU (cnm) hlt Aa O O ?_;intro x1 r1 rw_r1 hR' hok_r1 _ _ _ _ _ hP_x1;replace hR:=hR.trans hR';obtain⟨_,_,hP_x1⟩:=hP_x1;refine K7 ?_;refine' hG;refine Je rfl rfl rfl ?_;refine KU (hxs) hlt Aa O O ?_;intro l1 r2 rw_r2 hR' hok_r2 _ _ _ _ _ hP_l1;replace hR:=hR.trans hR';obtain⟨_,_,hP_l1⟩:=hP_l1;refine K7 ?_;refine' hG;refine J0 hlt rfl rfl (v:=.agg (Jb (.mk [110,101,119] x1 l1.xs [] _))) D ((JG _).below _) ?_;refine Vi (.mk [110,101,119] x1 l1.xs [] _) hR rfl (Rok.nx Aa O O) ⟨O,?_,?_⟩
  ·simp only[Zw,Vr,Af,Ad];omega
  ·exact λh=>Y0 (.inr (.inr (.inr (.inr (.inl ⟨rfl,rfl,hP_x1 O⟩))))) (hP_l1 O) KI
 ·refine Je rfl rfl rfl ?_;refine KU (ht) hlt Aa O O ?_;intro t1 r1 rw_r1 hR' hok_r1 _ _ _ _ _ hP_t1;replace hR:=hR.trans hR';obtain⟨_,_,hP_t1⟩:=hP_t1;refine K7 ?_;refine' hG;refine Je rfl rfl rfl ?_;refine KU (hx) hlt Aa O O ?_;intro x1 r2 rw_r2 hR' hok_r2 _ _ _ _ _ hP_x1;replace hR:=hR.trans hR';obtain⟨_,_,hP_x1⟩:=hP_x1;refine K7 ?_;refine' hG;refine Je rfl rfl rfl ?_;refine KU (hx) hlt Aa O O ?_;intro x2 r3 rw_r3 hR' hok_r3 _ _ _ _ _ hP_x2;replace hR:=hR.trans hR';obtain⟨_,_,hP_x2⟩:=hP_x2;refine K7 ?_;refine' hG;refine J0 hlt rfl rfl (v:=.agg (Jb (.mk [108,105,115,116] [] [x1,x2] [t1] _))) D ((JG _).below _) ?_;refine Vi (.mk [108,105,115,116] [] [x1,x2] [t1] _) hR rfl (Rok.nx Aa O O) ⟨O,?_,?_⟩
  ·simp only[Zw,KQ,Vr,Af,Ad];omega
  ·exact λh=>Y0 (.inr (.inr (.inr (.inr (.inr (.inl ⟨rfl,⟨_,_,rfl⟩,⟨_,rfl⟩,rfl⟩)))))) (JhD (hP_x1 O) (hP_x2 O)) (JqV (hP_t1 O))
 ·refine Je rfl rfl rfl ?_;refine KU (hx) hlt Aa O O ?_;intro x1 r1 rw_r1 hR' hok_r1 _ _ _ _ _ hP_x1;replace hR:=hR.trans hR';obtain⟨_,_,hP_x1⟩:=hP_x1;refine K7 ?_;refine' hG;refine J0 hlt rfl rfl (v:=.agg (Jb (.mk [108,101,110] [] [x1] [] _))) D ((JG _).below _) ?_;refine Vi (.mk [108,101,110] [] [x1] [] _) hR rfl (Rok.nx Aa O O) ⟨O,?_,?_⟩
  ·simp only[Zw,KQ,Vr,Af,Ad];omega
  ·exact λh=>Y0 (.inr (.inr (.inr (.inl ⟨rfl,⟨_,rfl⟩,rfl,rfl⟩)))) (Xt (hP_x1 O)) KI
 ·refine J0 hlt rfl rfl (v:=.agg (Jb (.mk [114,101,97,100] [] [] [] _))) D ((JG _).below _) ?_;refine Vi (.mk [114,101,97,100] [] [] [] _) hR rfl (Rok.nx Aa O O) ⟨O,?_,?_⟩
  ·simp only[Zw,KQ,Vr,Af,Ad];omega
  ·exact λ_=>Y0 (.inr (.inr (.inl ⟨.inr (.inr (.inr (.inr rfl))),rfl,rfl,rfl⟩))) VB KI
 ·refine Je rfl rfl rfl ?_;refine KU (cnm) hlt Aa O O ?_;intro x1 r1 rw_r1 hR' hok_r1 _ _ _ _ _ hP_x1;replace hR:=hR.trans hR';obtain⟨_,_,hP_x1⟩:=hP_x1;refine K7 ?_;refine' hG;refine J0 hlt rfl rfl (v:=.agg (Jb (.mk [118,97,114] x1 [] [] _))) D ((JG _).below _) ?_;refine Vi (.mk [118,97,114] x1 [] [] _) hR rfl (Rok.nx Aa O O) ⟨O,?_,?_⟩
  ·simp only[Zw,KQ,Vr,Af,Ad];omega
  ·exact λh=>Y0 (.inr (.inl ⟨rfl,rfl,rfl,hP_x1 O⟩)) VB KI
structure ExIn(s:Src)(r:Rd)(rw:List Nat)(r':Rd)(rw':List Nat)(t:Xp)(C:List AV):Prop where
 ok:Rok s r'
 mono:r.i<=r'.i
 deep:r'.deep=r.deep
 code:r'.code=0->r.code=0
 rx:Rx rw rw'
 can:Jh C=Jb t
 len:C.length=5
 wt:r'.code=0->r.i<r'.i/\(Zw t:Int)<=8100*(r'.i-r.i)
 okt:r'.code=0->X4 t
theorem Ei{Q:Prop}(h:Q:=by simp[hy]):Q:=h
theorem JDQ{K:AV->St->Prop}{α:Type}{sz by_:Nat}{rowsF:List α->List (List AV)}{rows:List (List AV)}{xs:List α}{H:List Blk}{rw:List Nat}(l:LT sz rowsF)(hx:rowsF xs=rows)(ha:rowsF (xs++l.xs)=rowsF xs++rowsF l.xs)(hn:rows≠[])(hb:(rows.length+(rowsF l.xs).length)*by_<=Ji)(hl:rows.length+(rowsF l.xs).length<=Ji)(hs:0<sz)
  (hk:∀(l':LT sz rowsF) (rw':List Nat),l'.xs=xs++l.xs->Rx rw rw'->K l'.v ⟨H,rw'⟩):ApAt sz by_ (.list sz .full rows) l.v ⟨H,rw⟩ K:=by
 obtain⟨v,ys,⟨sz',tag,hv,h1,h2⟩⟩:=l;simp only at ha hb hl hk |-;subst hv;subst hx;by_cases hy:rowsF ys=[]
 ·refine⟨.list sz .full (rowsF xs),⟨H,rw⟩,by simp[QK,hy],?_⟩;exact hk ⟨.list sz .full (rowsF xs),xs++ys,by rw[ha,hy,Ar];exact IsL.lit hn⟩ rw rfl Rx.rfl
 ·have hsz:=h1 hy;subst hsz;refine⟨.list sz' (.row rw.length ((rowsF xs).length+(rowsF ys).length)) (rowsF xs++rowsF ys),⟨H,rw++[(rowsF xs).length+(rowsF ys).length]⟩,?_,?_⟩
  ·simp[QK,hy,hs,hb,hl]
  ·exact hk ⟨_,xs++ys,by rw[ha];exact IsL.lit Ei⟩ _ rfl (Rx.rfl.push _)
theorem Bn{Q:Prop}(h:Q:=by simp only[Ad,Af,Ji];omega):Q:=h
theorem Ej{Q:Prop}(h:Q:=by((simp only[Jh,Jb,Ja,Jo,Ke,LT.canon,Ap,AC,Jq,JN,JO,JP];try rfl);rw[hl2];rfl)):Q:=h
theorem Jph(L:LibX pr F){m:Int}(hp1:RC pr F (λx:Xp=>AV.agg (Jb x)) exP 253 [] m)(hx:RC pr F (λx:Xp=>AV.agg (Jb x)) exP 193 [] m)(hxs:RC pr F LT.v Jyk 195 [] m)(ho:RC pr F (λx:Xp=>AV.agg (Jb x)) exP 244 [] (m-1)) :
  RC pr F (λx:Xp=>AV.agg (Jb x)) exP 244 [] m:=by
 have hm:=L.hm;have cis0:=λx=>KJ L.toLibR 0 O x;have cis1:=λx=>KJ L.toLibR 1 O x;have cis2:=λx=>KJ L.toLibR 2 O x;have cpl:=KW L.toLibR;have ctk:=λx=>Vu L.toLibR x 2000;have cen:=QO L.toLibR 2000;have cnd:=λx=>Vv L.toLibR x 2000;have cfl:=Vt L.toLibR 110 O 2000;have cnm:=Vw L.toLibR 2000;refine VZ hm L.f244.1 L.f244.2 rfl ?_;intro H rw n s r hlt hsm hok _ _ _ _ _;have hR:Rx rw rw:=Rx.rfl;refine' hG
 ·refine Je rfl rfl rfl ?_;refine KU (ho) hlt Aa O O ?_;intro x1 r1 rw_r1 hR' hok_r1 _ _ _ _ _ hP_x1;replace hR:=hR.trans hR';obtain⟨_,_,hP_x1⟩:=hP_x1;refine K7 ?_;refine' hG;refine J0 hlt rfl rfl (v:=.agg (Jb (.mk [110,111,116] [] [x1] [] _))) D ((JG _).below _) ?_;refine Vi (.mk [110,111,116] [] [x1] [] _) hR rfl (Rok.nx Aa O O) ⟨O,?_,?_⟩
  ·simp only[Zw,KQ,Vr,Af,Ad];omega
  ·exact λh=>Y0 (.inr (.inr (.inr (.inr (.inr (.inr (.inr (.inr (.inr (.inl ⟨.inr rfl,⟨_,rfl⟩,rfl,rfl⟩)))))))))) (Xt (hP_x1 O)) KI
 ·refine J0 hlt rfl rfl (v:=.agg (Jb (.mk [110,111,116] [] [] [] _))) D ((JG _).below _) ?_;refine Vi (.mk [110,111,116] [] [] [] _) hR rfl (Rok.nx Aa O O) ⟨O,?_,?_⟩
  ·simp only[Zw,KQ,Vr,Af,Ad];omega
  ·intro h;omega
 ·refine Je rfl rfl rfl ?_;refine KU (ho) hlt Aa O O ?_;intro x1 r1 rw_r1 hR' hok_r1 _ _ _ _ _ hP_x1;replace hR:=hR.trans hR';obtain⟨_,_,hP_x1⟩:=hP_x1;refine K7 ?_;refine' hG;refine J0 hlt rfl rfl (v:=.agg (Jb (.mk [110,101,103] [] [x1] [] _))) D ((JG _).below _) ?_;refine Vi (.mk [110,101,103] [] [x1] [] _) hR rfl (Rok.nx Aa O O) ⟨O,?_,?_⟩
  ·simp only[Zw,KQ,Vr,Af,Ad];omega
  ·exact λh=>Y0 (.inr (.inr (.inr (.inr (.inr (.inr (.inr (.inr (.inr (.inl ⟨.inl rfl,⟨_,rfl⟩,rfl,rfl⟩)))))))))) (Xt (hP_x1 O)) KI
 ·refine J0 hlt rfl rfl (v:=.agg (Jb (.mk [110,101,103] [] [] [] _))) D ((JG _).below _) ?_;refine Vi (.mk [110,101,103] [] [] [] _) hR rfl (Rok.nx Aa O O) ⟨O,?_,?_⟩
  ·simp only[Zw,KQ,Vr,Af,Ad];omega
  ·intro h;omega
 ·refine Je rfl rfl rfl ?_;refine KU (ho) hlt Aa O O ?_;intro x1 r1 rw_r1 hR' hok_r1 _ _ _ _ _ hP_x1;replace hR:=hR.trans hR';obtain⟨_,_,hP_x1⟩:=hP_x1;refine K7 ?_;refine' hG;refine J0 hlt rfl rfl (v:=.agg (Jb (.mk [110,111,116] [] [x1] [] _))) D ((JG _).below _) ?_;refine Vi (.mk [110,111,116] [] [x1] [] _) hR rfl (Rok.nx Aa O O) ⟨O,?_,?_⟩
  ·simp only[Zw,KQ,Vr,Af,Ad];omega
  ·exact λh=>Y0 (.inr (.inr (.inr (.inr (.inr (.inr (.inr (.inr (.inr (.inl ⟨.inr rfl,⟨_,rfl⟩,rfl,rfl⟩)))))))))) (Xt (hP_x1 O)) KI
 ·refine J0 hlt rfl rfl (v:=.agg (Jb (.mk [110,111,116] [] [] [] _))) D ((JG _).below _) ?_;refine Vi (.mk [110,111,116] [] [] [] _) hR rfl (Rok.nx Aa O O) ⟨O,?_,?_⟩
  ·simp only[Zw,KQ,Vr,Af,Ad];omega
  ·intro h;omega
 ·refine Je rfl rfl rfl ?_;refine KU (ho) hlt Aa O O ?_;intro x1 r1 rw_r1 hR' hok_r1 _ _ _ _ _ hP_x1;replace hR:=hR.trans hR';obtain⟨_,_,hP_x1⟩:=hP_x1;refine K7 ?_;refine' hG;refine J0 hlt rfl rfl (v:=.agg (Jb (.mk [110,101,103] [] [x1] [] _))) D ((JG _).below _) ?_;refine Vi (.mk [110,101,103] [] [x1] [] _) hR rfl (Rok.nx Aa O O) ⟨O,?_,?_⟩
  ·simp only[Zw,KQ,Vr,Af,Ad];omega
  ·exact λh=>Y0 (.inr (.inr (.inr (.inr (.inr (.inr (.inr (.inr (.inr (.inl ⟨.inl rfl,⟨_,rfl⟩,rfl,rfl⟩)))))))))) (Xt (hP_x1 O)) KI
 ·refine J0 hlt rfl rfl (v:=.agg (Jb (.mk [110,101,103] [] [] [] _))) D ((JG _).below _) ?_;refine Vi (.mk [110,101,103] [] [] [] _) hR rfl (Rok.nx Aa O O) ⟨O,?_,?_⟩
  ·simp only[Zw,KQ,Vr,Af,Ad];omega
  ·intro h;omega
 ·refine Je rfl rfl rfl ?_;refine KU (hp1) hlt Aa O O ?_;intro x0 r0 rw_r0 hR' hok_r0 _ _ _ _ _ hP_x0;replace hR:=hR.trans hR';obtain⟨_,_,hP_x0⟩:=hP_x0;refine K7 ?_;refine' hG;refine JB hm (λm e S'=>∃(r':Rd) (rw':List Nat) (t:Xp) (C Z:List AV) (J:List Blk),Z.length=5/\S'=⟨hp H n (blk s r') (.cells Z::.cells C::J),rw'⟩/\ExIn s r rw r' rw' t C/\(m:Int)=s.toks.length-r'.i /\
   e=[(0,.ptr n 0),(2,.ptr (H.length+0) 0),(4,.ptr (H.length+1) 0)]) ?_ (m:=(s.toks.length-r0.i).toNat) ⟨r0,rw_r0,x0,Jb x0,_,[],rfl,rfl,⟨hok_r0,O,O,O,hR,(JG x0).can,(JG x0).len,O,hP_x0⟩,O,rfl⟩
  clear hok_r0 hP_x0 hR;rintro m' e S' ⟨r',rw',t,C,Z,J,hZ,rfl,hin,hmm,rfl⟩;obtain⟨hok',h2,h3,h4,hR,hC,hCl,h8,h9⟩:=hin;have h5:=hok'.lo;have h6:=hok'.hi;have h7:=hok'.dlo;refine' hG
  ·refine Je rfl rfl rfl ?_;refine KU (hx) hlt Aa O O ?_;intro x1 r1 rw_r1 hR' hok_r1 _ _ _ _ _ hP_x1;replace hR:=hR.trans hR';obtain⟨_,_,hP_x1⟩:=hP_x1;refine K7 ?_;refine' hG;refine⟨(s.toks.length-rc.i).toNat,O,rc,rwc,.mk [105,110,100,101,120] [] [t,x1] [] _,_,_,_,hZ,rfl,⟨Aa,O,O,O,hR,D,rfl,λh=>?_,λh=>?_⟩,O,rfl⟩
   ·have:=h8 O;simp only[Zw,KQ,Vr,Af,Ad];omega
   ·exact Y0 (.inr (.inr (.inr (.inr (.inr (.inr (.inr (.inr (.inl ⟨rfl,⟨_,_,rfl⟩,rfl,rfl⟩))))))))) (JhD (h9 O) (hP_x1 O)) KI
  ·refine Je rfl rfl rfl ?_;refine KU (cnm) hlt Aa O O ?_;intro x1 r1 rw_r1 hR' hok_r1 _ _ _ _ _ hP_x1;replace hR:=hR.trans hR';obtain⟨_,_,hP_x1⟩:=hP_x1;refine K7 ?_;refine' hG
   ·refine Je rfl rfl rfl ?_;refine KU hxs hlt Aa O O ?_;intro l1 r2 rw_r2 hR' hok_r2 _ _ _ _ _ hP_l1;replace hR:=hR.trans hR';obtain⟨_,hw_l1,hP_l1⟩:=hP_l1;refine K7 ?_;refine JT ?_;refine JW rfl rfl rfl ?_;have hll:(Ja l1.xs).length=l1.xs.length:=JV _;refine JDQ (xs:=[t]) l1 rfl (V3 _ _) Ag Bn Bn O ?_;intro l2 rw3 hl2 hR3;replace hR:=hR.trans hR3;refine K7 ?_;refine' hG;refine⟨(s.toks.length-r2.i).toNat,O,r2,rw3,.mk [99,97,108,108] x1 (t::l1.xs) [] _,_,_,_,hZ,rfl,⟨Aa,O,O,O,hR,Ej,rfl,λh=>?_,λh=>?_⟩,O,rfl⟩
    ·have:=h8 O;simp only[Zw,KQ,Vr,Af,Ad];omega
    ·exact Y0 (.inr (.inr (.inr (.inr (.inr (.inr (.inr (.inl ⟨rfl,⟨_,_,rfl⟩,rfl,hP_x1 O⟩)))))))) (by rw[QU];exact⟨h9 O,hP_l1 h⟩) KI
   ·refine⟨(s.toks.length-rc.i).toNat,O,rc,rwc,.mk [102,105,101,108,100] x1 [t] [] _,_,_,_,hZ,rfl,⟨Aa,O,O,O,hR,D,rfl,λh=>?_,λh=>?_⟩,O,rfl⟩
    ·have:=h8 O;simp only[Zw,KQ,Vr,Af,Ad];omega
    ·exact Y0 (.inr (.inr (.inr (.inr (.inr (.inr (.inl ⟨rfl,⟨_,rfl⟩,rfl,hP_x1 O⟩))))))) (Xt (h9 O)) KI
  ·refine Je rfl rfl rfl ?_;refine KU (hx) hlt Aa O O ?_;intro x1 r1 rw_r1 hR' hok_r1 _ _ _ _ _ hP_x1;replace hR:=hR.trans hR';obtain⟨_,_,hP_x1⟩:=hP_x1;refine K7 ?_;refine' hG;refine⟨(s.toks.length-rc.i).toNat,O,rc,rwc,.mk [105,110,100,101,120] [] [t,x1] [] _,_,_,_,hZ,rfl,⟨Aa,O,O,O,hR,D,rfl,λh=>?_,λh=>?_⟩,O,rfl⟩
   ·have:=h8 O;simp only[Zw,KQ,Vr,Af,Ad];omega
   ·exact Y0 (.inr (.inr (.inr (.inr (.inr (.inr (.inr (.inr (.inl ⟨rfl,⟨_,_,rfl⟩,rfl,rfl⟩))))))))) (JhD (h9 O) (hP_x1 O)) KI
  ·refine Je rfl rfl rfl ?_;refine KU (cnm) hlt Aa O O ?_;intro x1 r1 rw_r1 hR' hok_r1 _ _ _ _ _ hP_x1;replace hR:=hR.trans hR';obtain⟨_,_,hP_x1⟩:=hP_x1;refine K7 ?_;refine' hG
   ·refine Je rfl rfl rfl ?_;refine KU hxs hlt Aa O O ?_;intro l1 r2 rw_r2 hR' hok_r2 _ _ _ _ _ hP_l1;replace hR:=hR.trans hR';obtain⟨_,hw_l1,hP_l1⟩:=hP_l1;refine K7 ?_;refine JT ?_;refine JW rfl rfl rfl ?_;have hll:(Ja l1.xs).length=l1.xs.length:=JV _;refine JDQ (xs:=[t]) l1 rfl (V3 _ _) Ag Bn Bn O ?_;intro l2 rw3 hl2 hR3;replace hR:=hR.trans hR3;refine K7 ?_;refine' hG;refine⟨(s.toks.length-r2.i).toNat,O,r2,rw3,.mk [99,97,108,108] x1 (t::l1.xs) [] _,_,_,_,hZ,rfl,⟨Aa,O,O,O,hR,Ej,rfl,λh=>?_,λh=>?_⟩,O,rfl⟩
    ·have:=h8 O;simp only[Zw,KQ,Vr,Af,Ad];omega
    ·exact Y0 (.inr (.inr (.inr (.inr (.inr (.inr (.inr (.inl ⟨rfl,⟨_,_,rfl⟩,rfl,hP_x1 O⟩)))))))) (by rw[QU];exact⟨h9 O,hP_l1 h⟩) KI
   ·refine⟨(s.toks.length-rc.i).toNat,O,rc,rwc,.mk [102,105,101,108,100] x1 [t] [] _,_,_,_,hZ,rfl,⟨Aa,O,O,O,hR,D,rfl,λh=>?_,λh=>?_⟩,O,rfl⟩
    ·have:=h8 O;simp only[Zw,KQ,Vr,Af,Ad];omega
    ·exact Y0 (.inr (.inr (.inr (.inr (.inr (.inr (.inl ⟨rfl,⟨_,rfl⟩,rfl,hP_x1 O⟩))))))) (Xt (h9 O)) KI
  ·refine J0 hlt rfl rfl (JG t).load ((JG _).below _) ?_;exact Vi t hR rfl (Rok.nx Aa O O) ⟨O,λh=>by have:=h8 O;omega,λh=>h9 O⟩
theorem JfO{α:Type}{enc:α->AV}{post:Src->Rd->α->Rd->Prop}{f:Nat}{args:List AV}{m:Int}(hm:m<=-100):RC pr F enc post f args m:=by intro H rw n s r M _ _ h1 h2;omega
theorem JlK{α:Type}{enc:α->AV}{post:Src->Rd->α->Rd->Prop}{f:Nat}{args:List AV}{m m':Int}(h:RC pr F enc post f args m)(hm:m'<=m):RC pr F enc post f args m':=by intro H rw n s r M a b h1 h2;exact h H rw n s r M a b O h2
theorem JfP(L:LibX pr F):∀ k:Nat,RC pr F (λx:Xp=>AV.agg (Jb x)) exP 193 [] (k-100)/\RC pr F (λx:Ty=>AV.agg (Jl x)) tyP 192 [] (k-100)/\RC pr F (λx:Xp=>AV.agg (Jb x)) exP 244 [] (k-101)
 | 0=>⟨JfO O,JfO O,JfO O⟩
 | k+1=>by
  obtain⟨h1,h2,h3⟩:=JfP L k;have hxs:=Jnk L h1;have hpr:=Jyl L h1;have hp:=Jpg L h1 hxs h2;have ho:=Jph L hp h1 hxs (by rw[show((k:Int)-100-1)=k-101 by omega];exact h3);have l6:=JHA L ho;have l5:=JfN L 5 O O l6;have l4:=JfN L 4 O O l5;have l3:=JfN L 3 O O l4;have l2:=JfN L 2 O O l3;have l1:=JfN L 1 O O l2;have l0:=JfN L 0 O O l1;refine⟨?_,?_,?_⟩
  ·rw[show(((k+1:Nat):Int)-100)=((k:Int)-100)+1 by omega];exact JjQ L l0
  ·rw[show(((k+1:Nat):Int)-100)=((k:Int)-100)+1 by omega];exact JHB L hpr
  ·rw[show(((k+1:Nat):Int)-101)=((k:Int)-100) by omega];exact ho
theorem JeZ(L:LibX pr F):RC pr F (λx:Xp=>AV.agg (Jb x)) exP 193 [] 2000:=by have:=(JfP L 2100).1;exact JlK this O
theorem JlL(L:LibX pr F):RC pr F (λx:Ty=>AV.agg (Jl x)) tyP 192 [] 2000:=by have:=(JfP L 2100).2.1;exact JlK this O
theorem JtN(L:LibX pr F):RC pr F LT.v Jyk 195 [] 2000:=Jnk L (JeZ L)
set_option maxRecDepth 100000
set_option maxHeartbeats 16000000
def Jnl:{l:List IC // Tr.fn Tr.TT Tryz.f94 0 [[0],[0,3],[0,3,5],[0,3],[0,3,17],[0,3],[3],[2]]=l}:=⟨_,AO⟩
def JTI:IC:=pk Jnl.1 0
def JTJ:IC:=pk Jnl.1 1
def JTK:IC:=pk Jnl.1 2
def JTL:IC:=pk Jnl.1 3
def JTM:IC:=pk Jnl.1 4
def JTN:IC:=pk Jnl.1 5
def JTO:IC:=pk Jnl.1 6
def JTP:IC:=pk Jnl.1 7
def i94:IFn:=⟨1,(.seq JTI (.seq JTJ (.seq (.seq JTK (.cond (.tmp 5) (.seq JTL (.block 0 (.loop [0,3] (.seq (.seq JTM (.cond (.tmp 17) (.skip) (.exit 0))) (.block 1 JTN))))) (.skip))) (.seq JTO (.seq JTP .ret))))),[.tmp 2]⟩
theorem c94:JK Tryz.prog Tryz.f94 i94=true:=Ae
def V9:{l:List IC // Tr.fn Tr.TT Tryz.f141 0 [[0,2,56],[0,2,3,56],[0,2,3,9,56],[0,2,3],[0,2,3],[0,2,3,17],[0,2,3],[0,2,3],[0,2,3],[2,3],[0,2,3,30,56],[2,3],[0,2,3,35,56],[0,2,3,56],[0,2,3,56],[0,2,3,56],[0,2,3,56],[0,2,3,48,56],[0,2,3,56],[2,3],[0,2,3,61],[0,2,3],[0,2,3,67],[0,2,3],[2,3],[0,2,3,74],[0,2,3],[0,2,3],[0,2,3],[2,3],[2,3],[2]]=l}:=⟨_,AO⟩
def JHC:IC:=pk V9.1 0
def JHD:IC:=pk V9.1 1
def JHE:IC:=pk V9.1 2
def JHF:IC:=pk V9.1 3
def JHG:IC:=pk V9.1 4
def JHH:IC:=pk V9.1 5
def JHI:IC:=pk V9.1 6
def JHJ:IC:=pk V9.1 7
def JHK:IC:=pk V9.1 8
def JHL:IC:=pk V9.1 9
def Jym:IC:=pk V9.1 10
def Jyn:IC:=pk V9.1 11
def Jyo:IC:=pk V9.1 12
def Jyp:IC:=pk V9.1 13
def Jyq:IC:=pk V9.1 14
def Jyr:IC:=pk V9.1 15
def Jys:IC:=pk V9.1 16
def Jyt:IC:=pk V9.1 17
def Jyu:IC:=.region [] [Qf 0 49 3 3,Qd 1 50 49,Qm 2 51 0,Qn 4 53 50,Qq 5 54 (.mkList 5 [(.const (.agg [(.str []),(.str []),(.list 0 .full []),(.list 0 .full []),(Qz 0)]))]),Qc 3 52 193 [(.tmp 51)] [1],Ql 6 55 (.append1 5 88 (.tmp 50) (.tmp 54) (.tmp 53) (.tmp 52) 56 7 8) [],Qf 9 57 3 3,Qs 10 1 57 55 []] [0,2,3,56]
def Jyv:IC:=pk V9.1 19
def Jyw:IC:=pk V9.1 20
def Jyx:IC:=pk V9.1 21
def Jyy:IC:=pk V9.1 22
def Jyz:IC:=pk V9.1 23
def JyA:IC:=pk V9.1 24
def JyB:IC:=pk V9.1 25
def JyC:IC:=pk V9.1 26
def JyD:IC:=pk V9.1 27
def JyE:IC:=pk V9.1 28
def JyF:IC:=pk V9.1 29
def JyG:IC:=pk V9.1 30
def JyH:IC:=pk V9.1 31
def JyI:IFn:=⟨1,(.seq JHC (.seq JHD (.seq (.block 0 (.seq JHE (.cond (.tmp 9) (.seq JHF (.seq JHG (.seq (.seq JHH (.cond (.tmp 17) JHI (.skip))) (.seq JHJ (.seq JHK JHL))))) (.seq Jym (.cond (.tmp 30) Jyn (.seq Jyo (.cond (.tmp 35) (.seq Jyp (.seq Jyq (.seq Jyr (.seq Jys (.seq (.block 1 (.loop [0,2,3,56] (.seq (.seq Jyt (.cond (.tmp 48) (.skip) (.exit 1))) (.block 2 Jyu)))) Jyv))))) (.seq Jyw (.cond (.tmp 61) (.seq Jyx (.seq Jyy (.cond (.tmp 67) (.seq Jyz JyA) (.skip)))) (.seq JyB (.cond (.tmp 74) (.seq JyC (.seq JyD (.seq JyE JyF))) JyG))))))))))) (.seq JyH .ret)))),[.cell 2 (some 7)]⟩
theorem JTQ:JK Tryz.prog Tryz.f141 JyI=true:=Ae
def JaS:{l:List IC // Tr.fn Tr.TT Tryz.f196 0 [[0,2],[0,2,3],[0,2,3],[0,2,3],[0,2,3],[0,2,3],[0,2,3],[0,2,3,21],[0,2,3,23],[0,2,3,25],[0,2,3],[2,3],[2,3],[2]]=l}:=⟨_,AO⟩
def JHM:IC:=pk JaS.1 0
def JHN:IC:=pk JaS.1 1
def JHO:IC:=pk JaS.1 2
def JHP:IC:=pk JaS.1 3
def JHQ:IC:=pk JaS.1 4
def JHR:IC:=pk JaS.1 5
def JHS:IC:=pk JaS.1 6
def JHT:IC:=pk JaS.1 7
def JHU:IC:=pk JaS.1 8
def JHV:IC:=pk JaS.1 9
def JyJ:IC:=pk JaS.1 10
def JyK:IC:=pk JaS.1 11
def JyL:IC:=pk JaS.1 12
def JyM:IC:=pk JaS.1 13
def JyN:IFn:=⟨1,(.seq JHM (.seq JHN (.seq JHO (.seq JHP (.seq JHQ (.seq JHR (.seq JHS (.seq (.seq JHT (.cond (.tmp 21) (.seq JHU (.cond (.tmp 23) (.seq (.seq JHV (.cond (.tmp 25) JyJ (.skip))) JyK) JyL)) (.skip))) (.seq JyM .ret))))))))),[.cell 2 (some 7)]⟩
theorem JTR:JK Tryz.prog Tryz.f196 JyN=true:=Ae
def JaT:{l:List IC // Tr.fn Tr.TT Tryz.f197 0 [[0,1,4,80],[0,1,4,80],[0,1,4,80],[0,1,4,16,80],[0,1,4,18,80],[0,1,4,18,21,80],[0,1,80],[0,1,4,18,34,80],[0,1,80],[0,1,4,52,80],[0,1,80],[0,1,80],[0,1,80],[0],[]]=l}:=⟨_,AO⟩
def JHW:IC:=pk JaT.1 0
def JHX:IC:=pk JaT.1 1
def JHY:IC:=pk JaT.1 2
def JHZ:IC:=pk JaT.1 3
def JH0:IC:=pk JaT.1 4
def JH1:IC:=pk JaT.1 5
def JH2:IC:=pk JaT.1 6
def JH3:IC:=pk JaT.1 7
def JH4:IC:=pk JaT.1 8
def JH5:IC:=pk JaT.1 9
def JyO:IC:=pk JaT.1 10
def JyP:IC:=pk JaT.1 11
def JyQ:IC:=pk JaT.1 12
def JyR:IC:=.region [] [Qm 0 71 1,Qq 1 72 (.nilCheck (.tmp 71)),Qf 2 73 3 72,Qd 3 74 73,Qm 4 75 0,Qn 6 77 74,Qq 7 78 (.mkList 5 [(.const (.agg [(.str []),(.str []),(.list 0 .full []),(.list 0 .full []),(Qz 0)]))]),Qc 5 76 193 [(.tmp 75)] [3],Ql 8 79 (.append1 5 88 (.tmp 74) (.tmp 78) (.tmp 77) (.tmp 76) 80 9 10) [],Qq 11 81 (.nilCheck (.tmp 71)),Qf 12 82 3 81,Qs 13 1 82 79 []] [0]
def JyS:IC:=pk JaT.1 14
def JyT:IFn:=⟨2,(.seq JHW (.seq JHX (.seq JHY (.seq (.seq JHZ (.cond (.tmp 16) (.seq (.seq JH0 (.block 0 (.seq JH1 (.cond (.tmp 21) JH2 (.seq JH3 (.cond (.tmp 34) JH4 (.seq JH5 (.cond (.tmp 52) JyO JyP)))))))) (.seq JyQ JyR)) (.skip))) JyS)))),[]⟩
theorem JTS:JK Tryz.prog Tryz.f197 JyT=true:=Ae
def JaC:{l:List IC // Tr.fn Tr.TT Tryz.f194 0 [[0],[0,3],[0,3],[0,3,8],[2],[0,3,13],[0,3,4],[0,3,4],[0,3,4],[0,3,4],[0,3],[0,3,30],[2],[0,3],[2]]=l}:=⟨_,AO⟩
def JH6:IC:=pk JaC.1 0
def JH7:IC:=pk JaC.1 1
def JH8:IC:=pk JaC.1 2
def JH9:IC:=pk JaC.1 3
def JIa:IC:=pk JaC.1 4
def JIb:IC:=pk JaC.1 5
def JIc:IC:=pk JaC.1 6
def JId:IC:=pk JaC.1 7
def JIe:IC:=pk JaC.1 8
def JIf:IC:=pk JaC.1 9
def JyU:IC:=pk JaC.1 10
def JyV:IC:=pk JaC.1 11
def JyW:IC:=pk JaC.1 12
def JyX:IC:=pk JaC.1 13
def JyY:IC:=pk JaC.1 14
def JyZ:IFn:=⟨1,(.seq JH6 (.seq JH7 (.seq JH8 (.seq (.seq JH9 (.cond (.tmp 8) (.seq JIa .ret) (.skip))) (.seq (.block 0 (.loop [0,3] (.seq (.seq JIb (.cond (.tmp 13) (.skip) (.exit 0))) (.block 1 (.seq JIc (.seq JId (.seq JIe (.seq JIf (.seq JyU (.seq (.seq JyV (.cond (.tmp 30) (.seq JyW .ret) (.skip))) JyX)))))))))) (.seq JyY .ret)))))),[.tmp 2]⟩
theorem JTT:JK Tryz.prog Tryz.f194 JyZ=true:=Ae
def JcK:{l:List IC // Tr.fn Tr.TT Tryz.f139 0 [[0,2],[0,2],[0,2,3],[0,2,3],[0,2,3],[0,2,3],[0,2,3,4],[0,2,3,4,21],[2,3],[2,3],[2]]=l}:=⟨_,AO⟩
def JIg:IC:=pk JcK.1 0
def JIh:IC:=pk JcK.1 1
def JIi:IC:=pk JcK.1 2
def JIj:IC:=pk JcK.1 3
def JIk:IC:=pk JcK.1 4
def JIl:IC:=pk JcK.1 5
def JIm:IC:=pk JcK.1 6
def JIn:IC:=pk JcK.1 7
def JIo:IC:=pk JcK.1 8
def JIp:IC:=pk JcK.1 9
def Jy0:IC:=pk JcK.1 10
def Jy1:IFn:=⟨1,(.seq JIg (.seq JIh (.seq JIi (.seq JIj (.seq JIk (.seq JIl (.seq JIm (.seq (.seq JIn (.cond (.tmp 21) JIo JIp)) (.seq Jy0 .ret))))))))),[.cell 2 (some 11)]⟩
theorem JTU:JK Tryz.prog Tryz.f139 Jy1=true:=Ae
def XK:{l:List IC // Tr.fn Tr.TT Tryz.f138 0 [[0,1,9,61],[0,1,4],[0,1,4],[0,1,4],[0,1,4],[0,1,4],[0,1,4],[1,4],[],[0,1,49,61],[0],[],[0,1,66],[0,1,5],[0,1,5],[0,1,5],[0,1,5,83],[0,1,5],[0,1,5],[0,1,5],[1,5],[],[0,1,103],[0,1,6],[1,6],[],[]]=l}:=⟨_,AO⟩
def JIq:IC:=pk XK.1 0
def JIr:IC:=pk XK.1 1
def JIs:IC:=pk XK.1 2
def JIt:IC:=pk XK.1 3
def JIu:IC:=pk XK.1 4
def JIv:IC:=pk XK.1 5
def JIw:IC:=pk XK.1 6
def JIx:IC:=pk XK.1 7
def JIy:IC:=pk XK.1 8
def JIz:IC:=pk XK.1 9
def Jy2:IC:=.region [] [Qm 0 52 1,Qq 1 53 (.nilCheck (.tmp 52)),Qf 2 54 5 53,Qd 3 55 54,Qm 4 56 0,Qn 6 58 55,Qq 7 59 (.mkList 5 [(.const (.agg [(.str []),(.str []),(.list 0 .full []),(.list 0 .full []),(Qz 0)]))]),Qc 5 57 193 [(.tmp 56)] [3],Ql 8 60 (.append1 5 88 (.tmp 55) (.tmp 59) (.tmp 58) (.tmp 57) 61 9 10) [],Qq 11 62 (.nilCheck (.tmp 52)),Qf 12 63 5 62,Qs 13 1 63 60 []] [0]
def Jy3:IC:=pk XK.1 11
def Jy4:IC:=pk XK.1 12
def Jy5:IC:=pk XK.1 13
def Jy6:IC:=pk XK.1 14
def Jy7:IC:=pk XK.1 15
def Jy8:IC:=pk XK.1 16
def Jy9:IC:=pk XK.1 17
def Jza:IC:=pk XK.1 18
def Jzb:IC:=pk XK.1 19
def Jzc:IC:=pk XK.1 20
def Jzd:IC:=pk XK.1 21
def Jze:IC:=pk XK.1 22
def Jzf:IC:=pk XK.1 23
def Jzg:IC:=pk XK.1 24
def Jzh:IC:=pk XK.1 25
def Jzi:IC:=pk XK.1 26
def Jzj:IFn:=⟨2,(.block 0 (.seq JIq (.cond (.tmp 9) (.seq JIr (.seq JIs (.seq JIt (.seq JIu (.seq JIv (.seq JIw (.seq JIx JIy))))))) (.seq JIz (.cond (.tmp 49) (.seq Jy2 Jy3) (.seq Jy4 (.cond (.tmp 66) (.seq Jy5 (.seq Jy6 (.seq Jy7 (.seq (.seq Jy8 (.cond (.tmp 83) (.seq Jy9 (.seq Jza Jzb)) (.skip))) (.seq Jzc Jzd))))) (.seq Jze (.cond (.tmp 103) (.seq Jzf (.seq Jzg Jzh)) Jzi))))))))),[]⟩
theorem JTV:JK Tryz.prog Tryz.f138 Jzj=true:=Ae
def Jhd:{l:List IC // Tr.fn Tr.TT Tryz.f91 0 [[0,2],[0,2],[0,2,3],[0,2,3],[0,2,3,13],[0,2,3],[0,2,3,18],[0,2,3],[0,2,3],[0,2,3,33],[0,2,3],[2]]=l}:=⟨_,AO⟩
def JTW:IC:=pk Jhd.1 0
def JTX:IC:=pk Jhd.1 1
def JTY:IC:=pk Jhd.1 2
def JTZ:IC:=pk Jhd.1 3
def JT0:IC:=pk Jhd.1 4
def JT1:IC:=pk Jhd.1 5
def JT2:IC:=pk Jhd.1 6
def JT3:IC:=pk Jhd.1 7
def JT4:IC:=pk Jhd.1 8
def JDR:IC:=pk Jhd.1 9
def JtO:IC:=pk Jhd.1 10
def JtP:IC:=pk Jhd.1 11
def i91:IFn:=⟨1,(.seq JTW (.seq JTX (.seq JTY (.seq JTZ (.seq (.seq JT0 (.cond (.tmp 13) JT1 (.skip))) (.seq (.seq JT2 (.cond (.tmp 18) JT3 (.skip))) (.seq JT4 (.seq (.block 0 (.loop [0,2,3] (.seq (.seq JDR (.cond (.tmp 33) (.skip) (.exit 0))) (.block 1 JtO)))) (.seq JtP .ret))))))))),[.cell 2 (some 9)]⟩
theorem c91:JK Tryz.prog Tryz.f91 i91=true:=Ae
def JfQ:{l:List IC // Tr.fn Tr.TT Tryz.f92 0 [[0,2],[0,2],[0,2,3],[0,2,3],[0,2,3,14],[0,2,3],[0,2,3],[0,2,3,29],[0,2,3,4],[0,2,3,4],[0,2,3,4],[0,2,3],[2]]=l}:=⟨_,AO⟩
def JT5:IC:=pk JfQ.1 0
def JT6:IC:=pk JfQ.1 1
def JT7:IC:=pk JfQ.1 2
def JT8:IC:=pk JfQ.1 3
def JT9:IC:=pk JfQ.1 4
def JUa:IC:=pk JfQ.1 5
def JUb:IC:=pk JfQ.1 6
def JDS:IC:=pk JfQ.1 7
def JDT:IC:=pk JfQ.1 8
def JDU:IC:=pk JfQ.1 9
def JtQ:IC:=pk JfQ.1 10
def JtR:IC:=pk JfQ.1 11
def JtS:IC:=pk JfQ.1 12
def i92:IFn:=⟨1,(.seq JT5 (.seq JT6 (.seq JT7 (.seq JT8 (.seq (.seq JT9 (.cond (.tmp 14) JUa (.skip))) (.seq JUb (.seq (.block 0 (.loop [0,2,3] (.seq (.seq JDS (.cond (.tmp 29) (.skip) (.exit 0))) (.block 1 (.seq JDT (.seq JDU (.seq JtQ JtR))))))) (.seq JtS .ret)))))))),[.cell 2 (some 9)]⟩
theorem c92:JK Tryz.prog Tryz.f92 i92=true:=Ae
def JcL:{l:List IC // Tr.fn Tr.TT Tryz.f51 0 [[0,2],[0,2,5,6,7],[0,2,5,6,7,17],[2,3,4],[2,8],[2,8,9],[2,8,9,31],[2,8,9,33],[2,8,9],[2,8,9],[2,8,9],[2,8,9],[2,8,9,62],[2,8,9],[2,8,9,69],[2,3,4],[2,3,4]]=l}:=⟨_,AO⟩
def JDV:IC:=pk JcL.1 0
def JUc:IC:=pk JcL.1 1
def JUd:IC:=pk JcL.1 2
def JUe:IC:=pk JcL.1 3
def JUf:IC:=pk JcL.1 4
def JUg:IC:=pk JcL.1 5
def JUh:IC:=pk JcL.1 6
def JUi:IC:=pk JcL.1 7
def JUj:IC:=pk JcL.1 8
def JUk:IC:=pk JcL.1 9
def JIA:IC:=pk JcL.1 10
def JIB:IC:=pk JcL.1 11
def JIC:IC:=pk JcL.1 12
def JID:IC:=pk JcL.1 13
def JIE:IC:=pk JcL.1 14
def JIF:IC:=pk JcL.1 15
def JIG:IC:=pk JcL.1 16
def i51:IFn:=⟨1,(.seq JDV (.seq JUc (.seq (.seq JUd (.cond (.tmp 17) (.seq JUe .ret) (.skip))) (.seq JUf (.seq JUg (.seq (.block 0 (.loop [2,8,9] (.seq (.seq JUh (.cond (.tmp 31) (.skip) (.exit 0))) (.block 1 (.seq JUi (.cond (.tmp 33) JUj JUk)))))) (.seq JIA (.seq JIB (.seq (.seq JIC (.cond (.tmp 62) JID (.skip))) (.seq (.seq JIE (.cond (.tmp 69) (.seq JIF .ret) (.skip))) (.seq JIG .ret))))))))))),[.cell 2 (some 2),.tmp 3,.tmp 4]⟩
theorem c51:JK Tryz.prog Tryz.f51 i51=true:=Ae
structure LibS(pr:Jz)(F:Nat->Option IFn):Prop extends LibX pr F where
 f94:QG pr F 94 i94
 f141:QG pr F 141 JyI
 f196:QG pr F 196 JyN
 f197:QG pr F 197 JyT
 f137:QG pr F 137 Jw3
 f194:QG pr F 194 JyZ
 f139:QG pr F 139 Jy1
 f138:QG pr F 138 Jzj
 f91:QG pr F 91 i91
 f92:QG pr F 92 i92
 f51:QG pr F 51 i51
abbrev LN:=LT (α:=Jk) 1 (List.map Qy)
abbrev LP:=LT (α:=Par) 8 (List.map Jf)
def J18(_:Src)(r:Rd)(l:LN)(r':Rd):Prop:=r'.deep=r.deep/\(r'.code=0->r.i<r'.i/\(wL wNm l.xs:Int)<=8100*(r'.i-r.i))/\(r'.code=0->∀ x∈l.xs,Nm x)
def JUl(_:Src)(r:Rd)(l:LP)(r':Rd):Prop:=r'.deep=r.deep/\(r'.code=0->r.i<r'.i/\(wL JlC l.xs:Int)<=8100*(r'.i-r.i))/\(r'.code=0->∀ x∈l.xs,Jkm x)
def JUm(_:Src)(r:Rd)(x:Mth)(r':Rd):Prop:=r'.deep=r.deep/\(r'.code=0->r.i<r'.i/\(JcF x:Int)<=8100*(r'.i-r.i))/\(x.body=[]/\x.abs=false/\(r'.code=0->Jnd x))
theorem Ek{Q:Prop}(h:Q:=by rw[An];exact hl4):Q:=h
theorem Jnm(L:LibS pr F):RC pr F LT.v J18 137 [] 2000:=by
 have hm:=L.hm;have cis0:=λx=>KJ L.toLibR 0 O x;have cis1:=λx=>KJ L.toLibR 1 O x;have cis2:=λx=>KJ L.toLibR 2 O x;have cpl:=KW L.toLibR;have ctk:=λx=>Vu L.toLibR x 2000;have cen:=QO L.toLibR 2000;have cnd:=λx=>Vv L.toLibR x 2000;have cfl:=Vt L.toLibR 110 O 2000;have cnm:=Vw L.toLibR 2000;refine VZ hm L.f137.1 L.f137.2 rfl ?_;intro H rw n s r hlt hsm hok _ _ _ _ _;have hR:Rx rw rw:=Rx.rfl;refine' hG;refine Je rfl rfl rfl ?_;refine KU (cnm) hlt Aa O O ?_;intro x0 r0 rw_r0 hR' hok_r0 _ _ _ _ _ hP_x0;replace hR:=hR.trans hR';obtain⟨_,_,hP_x0⟩:=hP_x0;refine K7 ?_;refine' hG;refine JB hm (λm e S'=>∃(r':Rd) (rw':List Nat) (l:AV) (xs:List Jk),S'=⟨hp H n (blk s r') [],rw'⟩/\Rok s r'/\r.i<=r'.i/\r'.deep=r.deep/\(r'.code=0->r.code=0)/\Rx rw rw'/\Lst rw 1 l (xs.map Qy) rw'/\xs.length<=1+r'.i /\
   (r'.code=0->r.i<r'.i/\(wL wNm xs:Int)<=8100*(r'.i-r.i))/\(r'.code=0->∀ x∈xs,Nm x)/\(m:Int)=s.toks.length-r'.i /\
   e=[(0,.ptr n 0),(3,l)]) ?_ (m:=(s.toks.length-r0.i).toNat) ⟨r0,rw_r0,_,[x0],rfl,hok_r0,O,O,O,hR,.lit Ag,AR,by simp only[wL,wNm];omega,λh x hx=>by rw[AN]at hx;subst hx;exact hP_x0 h,O,rfl⟩
 clear hok_r0 hP_x0 hR;rintro m' e S' ⟨r',rw',l,xs,rfl,hok',h2,h3,h4,hR,hl1,hxl,h8,h9,hmm,rfl⟩;have h5:=hok'.lo;have h6:=hok'.hi;have h7:=hok'.dlo;refine' hG
 ·refine Je rfl rfl rfl ?_;refine KU (cnm) hlt Aa O O ?_;intro x1 r1 rw_r1 hR' hok_r1 _ _ _ _ _ hP_x1;replace hR:=hR.trans hR';obtain⟨_,_,hP_x1⟩:=hP_x1;refine K7 ?_;refine' hG;refine JT ?_;refine JW rfl rfl rfl ?_;refine QB (row:=Qy x1) (hl1.ext (Rx.trans Aa Aa)) hR AD AD O ?_;intro l4 rw4 hl4 hR4;refine K7 ?_;refine' hG;refine⟨(s.toks.length-r1.i).toNat,O,r1,rw4,l4,xs++[x1],rfl,hok_r1,O,O,O,hR4,Ek,AR,?_,?_,O,rfl⟩
  ·intro h0;rw[VP];simp only[wL,wNm];omega
  ·intro h0 x hx;rcases AM.1 hx with h |h
   ·exact h9 O x h
   ·rw[AN]at h;subst h;exact hP_x1 h0
 ·refine Js rfl ?_ (JR hlt) ?_
  ·exact hl1.isL.below _
  ·exact Vi (enc:=LT.v) ⟨l,xs,hl1.isL⟩ hR rfl (Rok.nx Aa O O) ⟨O,λh=>by have:=h8 O;simp only;omega,λh=>h9 O⟩
theorem El{Q:Prop}(h:Q:=by cases hx):Q:=h
theorem Jks(L:LibS pr F):RC pr F LT.v JUl 194 [] 2000:=by
 have hm:=L.hm;have cis0:=λx=>KJ L.toLibR 0 O x;have cis1:=λx=>KJ L.toLibR 1 O x;have cis2:=λx=>KJ L.toLibR 2 O x;have cpl:=KW L.toLibR;have ctk:=λx=>Vu L.toLibR x 2000;have cen:=QO L.toLibR 2000;have cnd:=λx=>Vv L.toLibR x 2000;have cfl:=Vt L.toLibR 110 O 2000;have cnm:=Vw L.toLibR 2000;have hty:=JlL L.toLibX;refine VZ hm L.f194.1 L.f194.2 rfl ?_;intro H rw n s r hlt hsm hok _ _ _ _ _;have hR:Rx rw rw:=Rx.rfl;refine' hG
 ·refine Js rfl rfl (JR hlt) ?_;exact Vi (LT.nil rfl) hR rfl (Rok.nx Aa O O) ⟨O,by simp only[LT.nil,wL];omega,λ_ x hx=>El⟩
 ·refine JB hm (λm e S'=>∃(r':Rd) (rw':List Nat) (l:AV) (xs:List Par) (J:List Blk),S'=⟨hp H n (blk s r') J,rw'⟩/\Rok s r'/\r.i<=r'.i/\r'.deep=r.deep/\(r'.code=0->r.code=0)/\Rx rw rw'/\Lst rw 8 l (xs.map Jf) rw'/\xs.length<=1+r'.i /\
   (r'.code=0->r.i<r'.i/\(wL JlC xs:Int)<=8100*(r'.i-r.i))/\(r'.code=0->xs.length<=r'.i)/\(r'.code=0->∀ x∈xs,Jkm x)/\(m:Int)=2*(s.toks.length-r'.i)+(if r'.code=0 then 1 else 0) /\
   e=[(0,.ptr n 0),(3,l)]) ?_ (m:=(2*(s.toks.length-rc.i)+(if rc.code=0 then 1 else 0)).toNat) ⟨rc,rwc,_,[],[],rfl,Aa,O,O,O,hR,.nil,AR,by simp only[wL];omega,AR,λh x hx=>El,Bv,rfl⟩
  clear hR;rintro m' e S' ⟨r',rw',l,xs,J,rfl,hok',h2,h3,h4,hR,hl1,hxl,h8,hxl2,h9,hmm,rfl⟩;have h5:=hok'.lo;have h6:=hok'.hi;have h7:=hok'.dlo;have hRL:Rx rw' rw':=Rx.rfl;by_cases hc:r'.code=0
  ·rw[if_pos hc]at hmm;clear cpl;refine' hG;refine Je rfl rfl rfl ?_;refine Jhc (KW L.toLibR) hlt Aa ?_;intro pl _;refine K7 ?_;refine' hG;refine Je rfl rfl rfl ?_;refine KU (cnm) hlt Aa O O ?_;intro x1 r1 rw_r1 hR' hok_r1 _ _ _ _ _ hP_x1;replace hR:=hR.trans hR';(try replace hRL:=hRL.trans hR');obtain⟨_,_,hP_x1⟩:=hP_x1;refine K7 ?_;refine' hG;refine Je rfl rfl rfl ?_;refine KU (hty) hlt Aa O O ?_;intro t1 r2 rw_r2 hR' hok_r2 _ _ _ _ _ hP_t1;replace hR:=hR.trans hR';(try replace hRL:=hRL.trans hR');obtain⟨_,_,hP_t1⟩:=hP_t1;refine K7 ?_;refine' hG;refine YL ?_;refine XP rfl rfl ?_;refine Jd6 (vs:=Jf ⟨x1,t1,pl⟩) hlt Yf (Vs _) ?_;refine' hG;refine JT ?_;refine JW rfl rfl rfl ?_;refine QB (hl1.ext hRL) hR AD AD O ?_;intro l4 rw4 hl4 hR4;refine K7 ?_;rw[show xs.map Jf++[Jf ⟨x1,t1,pl⟩]=(xs++[(⟨x1,t1,pl⟩:Par)]).map Jf by simp]at hl4;have hw4:wL JlC (xs++[(⟨x1,t1,pl⟩:Par)])=wL JlC xs+(1+x1.length+wTy t1):=by rw[VP];simp[wL,JlC]
   have hn4:(xs++[(⟨x1,t1,pl⟩:Par)]).length=xs.length+1:=Ag;have ho4:r2.code=0->∀ x∈xs++[(⟨x1,t1,pl⟩:Par)],Jkm x:=by
    intro h x hx;rcases AM.1 hx with hh |hh
    ·exact h9 O x hh
    ·rw[AN]at hh;subst hh;exact⟨hP_x1 O,hP_t1 O⟩
   clear hR hRL;have hR:=hR4;have hRL:Rx rw4 rw4:=Rx.rfl;refine' hG
   ·refine Js rfl ?_ (JR hlt) ?_
    ·exact hl4.isL.below _
    ·exact Vi (enc:=LT.v) ⟨l4,_,hl4.isL⟩ hR rfl (Rok.nx Aa O O) ⟨O,λh=>by have:=h8 hc;simp only[hw4];omega,λh=>ho4 O⟩
   ·refine⟨(2*(s.toks.length-rc.i)+(if rc.code=0 then 1 else 0)).toNat,?_,rc,rwc,l4,_,_,rfl,Aa,O,O,O,hR,hl4.ext hRL,by rw[hn4];omega,?_,by rw[hn4];omega,λh=>ho4 O,Bv,rfl⟩
    ·split <;> omega
    ·intro h0;rw[hw4];omega
  ·refine' hG;refine Js rfl ?_ (JR hlt) ?_
   ·exact hl1.isL.below _
   ·exact Vi (enc:=LT.v) ⟨l,xs,hl1.isL⟩ hR rfl (Rok.nx Aa O O) ⟨O,λh=>absurd h hc,λh=>absurd h hc⟩
theorem JqW(L:LibS pr F):RC pr F (λx:Mth=>AV.agg (Jm x)) JUm 139 [] 2000:=by
 have hm:=L.hm;have cis0:=λx=>KJ L.toLibR 0 O x;have cis1:=λx=>KJ L.toLibR 1 O x;have cis2:=λx=>KJ L.toLibR 2 O x;have cpl:=KW L.toLibR;have ctk:=λx=>Vu L.toLibR x 2000;have cen:=QO L.toLibR 2000;have cnd:=λx=>Vv L.toLibR x 2000;have cfl:=Vt L.toLibR 110 O 2000;have cnm:=Vw L.toLibR 2000;have hty:=JlL L.toLibX;have hps:=Jks L;refine VZ hm L.f139.1 L.f139.2 rfl ?_;intro H rw n s r hlt hsm hok _ _ _ _ _;have hR:Rx rw rw:=Rx.rfl;clear cpl;refine' hG;refine Je rfl rfl rfl ?_;refine Jhc (KW L.toLibR) hlt Aa ?_;intro at_ _;refine K7 ?_;refine' hG;refine Je rfl rfl rfl ?_;refine KU (cnm) hlt Aa O O ?_;intro nm r1 rw_r1 hR' hok_r1 _ _ _ _ _ hP_nm;replace hR:=hR.trans hR';obtain⟨_,_,hP_nm⟩:=hP_nm;refine K7 ?_;refine' hG;refine Je rfl rfl rfl ?_;refine KU (hps) hlt Aa O O ?_;intro ps r2 rw_r2 hR' hok_r2 _ _ _ _ _ hP_ps;replace hR:=hR.trans hR';obtain⟨_,_,hP_ps⟩:=hP_ps;refine K7 ?_;refine' hG;refine Je rfl rfl rfl ?_;refine Jhc (KW L.toLibR) hlt Aa ?_;intro pl _;refine K7 ?_;refine' hG
 ·refine J0 hlt rfl rfl (v:=.agg (Jm ⟨nm,ps.xs,.mk 0 [] false [] [] pl,[],false,at_⟩)) D ((Qa _).below _) ?_;refine Vi ⟨nm,ps.xs,.mk 0 [] false [] [] pl,[],false,at_⟩ hR rfl (Rok.nx Aa O O) ⟨O,?_,rfl,rfl,?_⟩
  ·simp only[JcF,wTy,Vr,KQ,Qj,Af];omega
  ·exact λh=>⟨hP_nm O,hP_ps O,.inr ⟨_,rfl⟩,trivial,λ_=>rfl⟩
 ·refine Je rfl rfl rfl ?_;refine KU (hty) hlt Aa O O ?_;intro t r3 rw_r3 hR' hok_r3 _ _ _ _ _ hP_t;replace hR:=hR.trans hR';obtain⟨_,_,hP_t⟩:=hP_t;refine K7 ?_;refine' hG;refine YL ?_;refine XP rfl rfl ?_;refine Jo6 (vs:=Jm ⟨nm,ps.xs,t,[],false,at_⟩) hlt rfl D (by simp[JfI]) ?_;refine' hG;refine J0 hlt rfl rfl (Qa _).load ((Qa _).below _) ?_;refine Vi ⟨nm,ps.xs,t,[],false,at_⟩ hR rfl (Rok.nx Aa O O) ⟨O,?_,rfl,rfl,?_⟩
  ·simp only[JcF,Qj];omega
  ·exact λh=>⟨hP_nm O,hP_ps O,.inl (hP_t O),trivial,λ_=>rfl⟩
end Go.Proofs.YtmeakjgbjldkdaaGreat.Ai
