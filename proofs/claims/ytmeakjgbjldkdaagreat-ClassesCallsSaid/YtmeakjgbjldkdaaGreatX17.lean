/- A part of what is proved: Shelf2, SrtC, SrtW, SrtT, Fro, SrtK, SrtL, C11r, C16r, L13, M1, M2, ExU. No condition. -/
import Derived.Test.YtmeakjgbjldkdaaGreatX16
import Derived.Shelf.SlSortCmp.NoneTotal
import Derived.Ground.SlsfProg
import Derived.Test.YtmeakjgbjldkdaaGreatProg
import Derived.KernelRfl
set_option maxRecDepth 100000
set_option maxHeartbeats 16000000
namespace Go.Proofs
open Go.Shelf
def Tryz.laysF6_ren : Go.Shelf.Ren:=⟨fun | 6 => 72 | 15 => 110 | 14 => 113 | 28 => 165 | 29 => 166 | 20 => 167 | 21 => 168 | 22 => 169 | 23 => 170 | 24 => 171 | 25 => 172 | 26 => 173 | 27 => 174 | 46 => 215 | 47 => 210 | 48 => 211 | 49 => 216 | 50 => 217 | 57 => 239 | n => n,fun | 22 => 85 | 24 => 61 | 25 => 140 | 3 => 3 | 39 => 186 | 0 => 0 | 53 => 114 | 55 => 234 | 4 => 4 | 46 => 227 | 45 => 226 | 50 => 108 | 5 => 5 | 9 => 9 | 66 => 269 | 70 => 273 | 76 => 286 | 77 => 53 | n => n,fun | n => n⟩
theorem Tryz.laysF6 : Go.Proofs.SlLaysF0.n6 Tryz.prog Tryz.laysF6_ren:={
 mixed:=by kernel_rfl
 f6:=⟨Tryz.f72.name,by decide,Tryz.func72.trans (congrArg some (by kernel_rfl))⟩
 f14:=⟨Tryz.f113.name,by decide,Tryz.func113.trans (congrArg some (by kernel_rfl))⟩
 f15:=Tryz.func110.trans (congrArg some (by kernel_rfl))
 f20:=⟨Tryz.f167.name,by decide,Tryz.func167.trans (congrArg some (by kernel_rfl))⟩
 f21:=⟨Tryz.f168.name,by decide,Tryz.func168.trans (congrArg some (by kernel_rfl))⟩
 f22:=⟨Tryz.f169.name,by decide,Tryz.func169.trans (congrArg some (by kernel_rfl))⟩
 f23:=⟨Tryz.f170.name,by decide,Tryz.func170.trans (congrArg some (by kernel_rfl))⟩
 f24:=⟨Tryz.f171.name,by decide,Tryz.func171.trans (congrArg some (by kernel_rfl))⟩
 f25:=⟨Tryz.f172.name,by decide,Tryz.func172.trans (congrArg some (by kernel_rfl))⟩
 f26:=⟨Tryz.f173.name,by decide,Tryz.func173.trans (congrArg some (by kernel_rfl))⟩
 f27:=⟨Tryz.f174.name,by decide,Tryz.func174.trans (congrArg some (by kernel_rfl))⟩
 f28:=Tryz.func165.trans (congrArg some (by kernel_rfl))
 f29:=Tryz.func166.trans (congrArg some (by kernel_rfl))
 f46:=⟨Tryz.f215.name,by decide,Tryz.func215.trans (congrArg some (by kernel_rfl))⟩
 f47:=Tryz.func210.trans (congrArg some (by kernel_rfl))
 f48:=Tryz.func211.trans (congrArg some (by kernel_rfl))
 f49:=⟨Tryz.f216.name,by decide,Tryz.func216.trans (congrArg some (by kernel_rfl))⟩
 f50:=⟨Tryz.f217.name,by decide,Tryz.func217.trans (congrArg some (by kernel_rfl))⟩
 f57:=⟨Tryz.f239.name,by decide,Tryz.func239.trans (congrArg some (by kernel_rfl))⟩
 t0:=Tryz.underlying0
 a0:=Tryz.isAgg0
 z0:=Tryz.sizeOf0
 v0:=Tryz.zeroValue0
 t3:=Tryz.underlying3
 a3:=Tryz.isAgg3
 z3:=Tryz.sizeOf3
 v3:=Tryz.zeroValue3
 t4:=Tryz.underlying4
 a4:=Tryz.isAgg4
 z4:=Tryz.sizeOf4
 v4:=Tryz.zeroValue4
 t5:=Tryz.underlying5
 a5:=Tryz.isAgg5
 z5:=Tryz.sizeOf5
 v5:=Tryz.zeroValue5
 t9:=Tryz.underlying9
 a9:=Tryz.isAgg9
 z9:=Tryz.sizeOf9
 v9:=Tryz.zeroValue9
 t22:=Tryz.underlying85
 a22:=Tryz.isAgg85
 z22:=Tryz.sizeOf85
 v22:=Tryz.zeroValue85
 t25:=Tryz.underlying140
 a25:=Tryz.isAgg140
 z25:=Tryz.sizeOf140
 v25:=Tryz.zeroValue140
 t39:=Tryz.underlying186
 a39:=Tryz.isAgg186
 z39:=Tryz.sizeOf186
 v39:=Tryz.zeroValue186
 t45:=Tryz.underlying226
 a45:=Tryz.isAgg226
 z45:=Tryz.sizeOf226
 v45:=Tryz.zeroValue226
 t46:=Tryz.underlying227
 a46:=Tryz.isAgg227
 z46:=Tryz.sizeOf227
 v46:=Tryz.zeroValue227
 t50:=Tryz.underlying108
 a50:=Tryz.isAgg108
 z50:=Tryz.sizeOf108
 v50:=Tryz.zeroValue108
 t53:=Tryz.underlying114
 a53:=Tryz.isAgg114
 z53:=Tryz.sizeOf114
 v53:=Tryz.zeroValue114
 t55:=Tryz.underlying234
 a55:=Tryz.isAgg234
 z55:=Tryz.sizeOf234
 v55:=Tryz.zeroValue234
 t66:=Tryz.underlying269
 a66:=Tryz.isAgg269
 z66:=Tryz.sizeOf269
 v66:=Tryz.zeroValue269
 t70:=Tryz.underlying273
 a70:=Tryz.isAgg273
 z70:=Tryz.sizeOf273
 v70:=Tryz.zeroValue273
 t76:=Tryz.underlying286
 a76:=Tryz.isAgg286
 z76:=Tryz.sizeOf286
 v76:=Tryz.zeroValue286
 t77:=Tryz.underlying53
 a77:=Tryz.isAgg53
 z77:=Tryz.sizeOf53
 v77:=Tryz.zeroValue53}
end Go.Proofs
namespace Go.Proofs.YtmeakjgbjldkdaaGreat.Slo
open Go Go.Sort Go.Lib Go.Shelf
theorem cmp73 (a b : ByteArray) (v1 v2 v3 v4 v5 v6 v7 v8 v9 v10 v11 v12 : Value) (u1 u2 u3 u4 u5 u6 u7 u8 u9 u10 u11 u12 : Value) (W : World) : Calls Tryz.prog 73 #[.agg #[.string a,v1,v2,v3,v4,v5,v6,v7,v8,v9,v10,v11,v12],.agg #[.string b,u1,u2,u3,u4,u5,u6,u7,u8,u9,u10,u11,u12]] W fun e w' => e = .returned (.int .i64 (Lib.compareBytes a.data.toList b.data.toList)) ∧ ∃ q os',w' = grow (W.drewN q) os':=by
 have hcon:=fun W' => Tryz.strings_Compare a b W'
 generalize Lib.compareBytes a.data.toList b.data.toList = r at hcon ⊢
 go_enter Tryz.func73,Tryz.ntmps73
 go_wp2_with (go_at_call 74; refine (hcon _).mono ?_; rintro e w' ⟨rfl,rfl⟩)
 go_ret
 exact ⟨rfl,0,_,by rw [alloc_eq_grow,alloc_eq_grow,grow_grow]; rfl⟩
end Go.Proofs.YtmeakjgbjldkdaaGreat.Slo
namespace Go.Proofs.YtmeakjgbjldkdaaGreat.Slo
open Go Go.Sort Go.Lib Go.Shelf Go.Proofs.YtmeakjgbjldkdaaGreat.Ai
theorem cmp_lt : ∀ a b : List UInt8,Lib.compareBytes a b < 0 ↔ a < b
 | [],[] => by simp [Lib.compareBytes]
 | [],_ :: _ => by simp [Lib.compareBytes]
 | _ :: _,[] => by simp [Lib.compareBytes]
 | a :: xs,b :: ys => by
  have ih:=cmp_lt xs ys
  unfold Lib.compareBytes
  rw [List.cons_lt_cons_iff]
  by_cases h1 : a < b
  ·simp [h1]
  ·rw [if_neg h1]
   by_cases h2 : b < a
   ·rw [if_pos h2]
    have h3 : a ≠ b:=fun e => by subst e; exact h1 h2
    simp [h1,h3]
   ·rw [if_neg h2,ih]
    have h3 : a = b:=by
     rw [UInt8.not_lt] at h1 h2
     exact UInt8.le_antisymm h2 h1
    simp [h3]
theorem lt_cmp (a b : List UInt8) : ltOf Lib.compareBytes a b = decide (a < b):=by
 unfold ltOf
 exact decide_eq_decide.2 (cmp_lt a b)
theorem swoB : SWO (ltOf Lib.compareBytes) where
 irrefl x:=by rw [lt_cmp]; simp [List.lt_irrefl]
 trans x y z h1 h2:=by
  rw [lt_cmp,decide_eq_true_eq] at *
  exact List.lt_trans h1 h2
 ntrans x y z h1 h2:=by
  rw [lt_cmp,decide_eq_false_iff_not] at *
  rw [List.not_lt] at *
  exact List.le_trans h2 h1
def encR (rest : List UInt8 → List Value) (k : List UInt8) : List Value:=.string ⟨k.toArray⟩ :: rest k
theorem lays73 (rest : List UInt8 → List Value) (hr : ∀ k,(rest k).length = 12) (blk off size : Nat) (w : World) : CmpLays Tryz.prog 73 #[] (encR rest) 13 Lib.compareBytes blk off size w:=by
 intro m os dk hs x y
 have h12 : ∀ l : List Value,l.length = 12 → ∃ v1 v2 v3 v4 v5 v6 v7 v8 v9 v10 v11 v12,l = [v1,v2,v3,v4,v5,v6,v7,v8,v9,v10,v11,v12]:=fun l h => by
  match l,h with
  | [v1,v2,v3,v4,v5,v6,v7,v8,v9,v10,v11,v12],_ => exact ⟨v1,v2,v3,v4,v5,v6,v7,v8,v9,v10,v11,v12,rfl⟩
 obtain ⟨v1,v2,v3,v4,v5,v6,v7,v8,v9,v10,v11,v12,hv⟩:=h12 _ (hr x)
 obtain ⟨u1,u2,u3,u4,u5,u6,u7,u8,u9,u10,u11,u12,hu⟩:=h12 _ (hr y)
 unfold encR
 rw [hv,hu]
 exact cmp73 ⟨x.toArray⟩ ⟨y.toArray⟩ v1 v2 v3 v4 v5 v6 v7 v8 v9 v10 v11 v12 u1 u2 u3 u4 u5 u6 u7 u8 u9 u10 u11 u12 _
theorem sort72 (rest : List UInt8 → List Value) (hr : ∀ k,(rest k).length = 12) (h1 : ∀ k,∀ v ∈ rest k,v.oneCell' = true) (blk off cap : Nat) (d : Array (List UInt8)) (w : World) (hH : HoldsK (encR rest) 13 w blk off d) (hblk : blk < w.heap.size) (hsz : d.size < 4611686018427387904) :
  Calls Tryz.prog 72 #[.slice (some ⟨blk,off,none⟩) d.size cap,.func (.func 73) #[] #[]] w fun e w' => e = .returned (.tuple #[]) ∧ ∃ n os,w' = sortWorldK (encR rest) 13 w blk off n (sortB d.toList).toArray os:=by
 have eg : ∀ args w,(callFunc 73 args).run Tryz.prog w = .ok (.enter 73 args) w:=enters_of Tryz.func73 (by kernel_rfl) rfl
 have hcon:=AnyQ.slices_SortFunc_total Tryz.laysF6 13 Tryz.isAgg61 Tryz.sizeOf61 (encR rest) (fun k => by simp [encR,hr]) (fun k v hv => by
  rcases List.mem_cons.1 hv with rfl | hv
  ·rfl
  ·exact h1 k v hv) Lib.compareBytes swoB 73 #[] blk off cap d w eg (lays73 rest hr blk off d.size w) hH hblk hsz (fun x y h1 h2 => by
   rw [lt_cmp,decide_eq_false_iff_not,List.not_lt] at h1 h2
   exact List.le_antisymm h2 h1)
 have e : (fun x y : List UInt8 => !(ltOf Lib.compareBytes) y x) = fun x y => decide (x ≤ y):=by
  funext x y
  rw [lt_cmp]
  by_cases h : y < x
  ·simp [h]
  ·simp [h,List.not_lt.1 h]
 rw [e,sortB_eq] at hcon
 exact hcon
theorem sort72_none (p : Option Addr) (cap : Nat) (fv : Value) (w : World) : Calls Tryz.prog 72 #[.slice p 0 cap,fv] w fun e w' => e = .returned (.tuple #[]) ∧ w' = w:=AnyF.slices_SortFunc_none Tryz.laysF6 p cap fv w
end Go.Proofs.YtmeakjgbjldkdaaGreat.Slo
namespace Go.Proofs.YtmeakjgbjldkdaaGreat.Slo
open Go Go.Sort Go.Lib
theorem act60 (a : Act) (h : a.tmps.size = 60) (hd : a.defers = []) : ∃ t0 t1 t2 t3 t4 t5 t6 t7 t8 t9 t10 t11 t12 t13 t14 t15 t16 t17 t18 t19 t20 t21 t22 t23 t24 t25 t26 t27 t28 t29 t30 t31 t32 t33 t34 t35 t36 t37 t38 t39 t40 t41 t42 t43 t44 t45 t46 t47 t48 t49 t50 t51 t52 t53 t54 t55 t56 t57 t58 t59 : Value,
  a = {tmps:=#[t0,t1,t2,t3,t4,t5,t6,t7,t8,t9,t10,t11,t12,t13,t14,t15,t16,t17,t18,t19,t20,t21,t22,t23,t24,t25,t26,t27,t28,t29,t30,t31,t32,t33,t34,t35,t36,t37,t38,t39,t40,t41,t42,t43,t44,t45,t46,t47,t48,t49,t50,t51,t52,t53,t54,t55,t56,t57,t58,t59],defers:=[]}:=by
 obtain ⟨⟨l⟩,d⟩:=a
 simp only at h hd
 subst hd
 simp only [List.size_toArray] at h
 match l,h with
 | t0 :: t1 :: t2 :: t3 :: t4 :: t5 :: t6 :: t7 :: t8 :: t9 :: t10 :: t11 :: t12 :: t13 :: t14 :: t15 :: t16 :: t17 :: t18 :: t19 :: t20 :: t21 :: t22 :: t23 :: t24 :: t25 :: t26 :: t27 :: t28 :: t29 :: t30 :: t31 :: t32 :: t33 :: t34 :: t35 :: t36 :: t37 :: t38 :: t39 :: t40 :: t41 :: t42 :: t43 :: t44 :: t45 :: t46 :: t47 :: t48 :: t49 :: t50 :: t51 :: t52 :: t53 :: t54 :: t55 :: t56 :: t57 :: t58 :: t59 :: [],_ => exact ⟨t0,t1,t2,t3,t4,t5,t6,t7,t8,t9,t10,t11,t12,t13,t14,t15,t16,t17,t18,t19,t20,t21,t22,t23,t24,t25,t26,t27,t28,t29,t30,t31,t32,t33,t34,t35,t36,t37,t38,t39,t40,t41,t42,t43,t44,t45,t46,t47,t48,t49,t50,t51,t52,t53,t54,t55,t56,t57,t58,t59,rfl⟩
noncomputable def a37 : Code:=sub1 (Tryz.f37.body.getD .skip)
noncomputable def b37 : Code:=sub1 (sub2 (Tryz.f37.body.getD .skip))
noncomputable def c37c : Code:=sub1 (sub2 (sub2 (Tryz.f37.body.getD .skip)))
noncomputable def tail37 : Code:=sub2 (sub2 (sub2 (Tryz.f37.body.getD .skip)))
theorem body37 : Tryz.f37.body = some (.seq a37 (.seq b37 (.seq c37c tail37))):=by
 unfold a37 b37 c37c tail37 Tryz.f37
 rfl
theorem tail37_wp (sv : Value) (Q : Exit → Act → World → Prop) (R : World → Prop) (a : Act) (w : World) (hs : a.tmps.size = 60) (hd : a.defers = []) (ha : a.tmps.getD 5 Go.undef = sv)
  (hc : Calls Tryz.prog 72 #[sv,.func (.func 73) #[] #[]] w fun e w' => e = .returned (.tuple #[]) ∧ R w')
  (hQ : ∀ a' w',a'.defers = [] → a'.tmps.size = 60 → a'.tmps.getD 4 Go.undef = sv → R w' → Q .ret a' w') : tail37.wp Tryz.prog Q a w:=by
 obtain ⟨t0,t1,t2,t3,t4,t5,t6,t7,t8,t9,t10,t11,t12,t13,t14,t15,t16,t17,t18,t19,t20,t21,t22,t23,t24,t25,t26,t27,t28,t29,t30,t31,t32,t33,t34,t35,t36,t37,t38,t39,t40,t41,t42,t43,t44,t45,t46,t47,t48,t49,t50,t51,t52,t53,t54,t55,t56,t57,t58,t59,rfl⟩:=act60 a hs hd
 change t5 = sv at ha
 subst ha
 clear hs hd
 unfold tail37 Tryz.f37
 dsimp only [Option.getD_some,sub2]
 go_wp2_with (go_at_call 72; refine hc.mono ?_; rintro e w' ⟨rfl,hR⟩)
 exact hQ _ _ rfl rfl rfl hR
end Go.Proofs.YtmeakjgbjldkdaaGreat.Slo
namespace Go.Proofs.YtmeakjgbjldkdaaGreat.Ai
open Go
theorem tag_cl {K K' : Ghost} (hg : ∀ B l,K.g B = some l → K'.g B = some l ∧ K'.a B = K.a B) {sz : Nat} {tag : Tag} {len cap B o : Nat} {o' : Nat} {vs : List Value} (hf : K.fix B o' vs) (h : K.tagOk sz tag len cap B o) : K'.tagOk sz tag len cap B o:=by
 obtain ⟨l0,hf0,-⟩:=hf
 obtain ⟨g1,a1⟩:=hg B l0 hf0
 refine ⟨fun x hx => h.1 x (by rw [← a1]; exact hx),?_⟩
 replace h:=h.2
 cases tag with
 | full => exact h
 | dead => trivial
 | row b e =>
  obtain ⟨⟨x,h1,h2⟩,h3⟩:=h
  refine ⟨⟨x,by rw [a1]; exact h1,h2⟩,fun hlt => ?_⟩
  obtain ⟨E,size,l,e1,e2,rest⟩:=h3 hlt
  rw [hf0] at e2
  simp only [Option.some.injEq] at e2
  subst e2
  exact ⟨E,size,_,by rw [a1]; exact e1,g1,rest⟩
mutual
theorem Rep.closed {K K' : Ghost} (hg : ∀ B l,K.g B = some l → K'.g B = some l ∧ K'.a B = K.a B) : ∀ (a : AV) (v : Value),Rep K a v → closed1 a = true → Rep K' a v
 | .bool _,_,r,_ => by simpa only [Rep] using r
 | .int _ _,_,r,_ => by simpa only [Rep] using r
 | .str _,_,r,_ => by simpa only [Rep] using r
 | .nilp,_,r,_ => by simpa only [Rep] using r
 | .nilm,_,r,_ => by simpa only [Rep] using r
 | .nilf,_,r,_ => by simpa only [Rep] using r
 | .nili,_,r,_ => by simpa only [Rep] using r
 | .undef,_,r,_ => by simpa only [Rep] using r
 | .ptr n off,v,r,hb => by simp [closed1] at hb
 | .map n,v,r,hb => by simp [closed1] at hb
 | .arr n off sz len,v,r,hb => by simp [closed1] at hb
 | .func f a b,v,r,hb => by
  simp only [Rep] at r ⊢
  simp only [closed1,Bool.and_eq_true] at hb
  obtain ⟨us,vs,hv,h1,h2⟩:=r
  exact ⟨us,vs,hv,RepT.closed hg a us h1 hb.1,RepT.closed hg b vs h2 hb.2⟩
 | .ref cs,v,r,hb => by
  simp only [Rep] at r ⊢
  simp only [closed1] at hb
  obtain ⟨B,o,vs,hv,hf,hr⟩:=r
  exact ⟨B,o,vs,hv,fix_g (fun B l h => (hg B l h).1) hf,RepL.closed hg cs vs hr hb⟩
 | .list sz tag rows,v,r,_ => by
  simp only [Rep] at r ⊢
  obtain ⟨base,cap,hv,hc,hs,hr⟩:=r
  refine ⟨base,cap,hv,hc,hs,hr.imp id ?_⟩
  rintro ⟨B,o,vs,hb,hf,hr,ht⟩
  exact ⟨B,o,vs,hb,fix_g (fun B l h => (hg B l h).1) hf,RepLL.closed hg rows vs hr (fun r hr' => (hs r hr').2),tag_cl hg hf ht⟩
 | .iface t x,v,r,hb => by
  simp only [Rep] at r ⊢
  simp only [closed1] at hb
  obtain ⟨u,hv,h1⟩:=r
  exact ⟨u,hv,Rep.closed hg x u h1 hb⟩
 | .agg cs,v,r,hb => by
  simp only [Rep] at r ⊢
  simp only [closed1] at hb
  obtain ⟨vs,hv,h1⟩:=r
  exact ⟨vs,hv,RepL.closed hg cs vs h1 hb⟩
 | .tup cs,v,r,hb => by
  simp only [Rep] at r ⊢
  simp only [closed1] at hb
  obtain ⟨vs,hv,h1⟩:=r
  exact ⟨vs,hv,RepT.closed hg cs vs h1 hb⟩
theorem RepL.closed {K K' : Ghost} (hg : ∀ B l,K.g B = some l → K'.g B = some l ∧ K'.a B = K.a B) : ∀ (a : List AV) (v : List Value),RepL K a v → closedL a = true → RepL K' a v
 | [],_,r,_ => by simpa only [RepL] using r
 | a :: ts,v,r,hb => by
  simp only [RepL] at r ⊢
  simp only [closedL,Bool.and_eq_true] at hb
  obtain ⟨u,us,hv,h1,h2,h3⟩:=r
  exact ⟨u,us,hv,h1,Rep.closed hg a u h2 hb.1,RepL.closed hg ts us h3 hb.2⟩
theorem RepT.closed {K K' : Ghost} (hg : ∀ B l,K.g B = some l → K'.g B = some l ∧ K'.a B = K.a B) : ∀ (a : List AV) (v : List Value),RepT K a v → closedL a = true → RepT K' a v
 | [],_,r,_ => by simpa only [RepT] using r
 | a :: ts,v,r,hb => by
  simp only [RepT] at r ⊢
  simp only [closedL,Bool.and_eq_true] at hb
  obtain ⟨u,us,hv,h2,h3⟩:=r
  exact ⟨u,us,hv,Rep.closed hg a u h2 hb.1,RepT.closed hg ts us h3 hb.2⟩
theorem RepLL.closed {K K' : Ghost} (hg : ∀ B l,K.g B = some l → K'.g B = some l ∧ K'.a B = K.a B) : ∀ (a : List (List AV)) (v : List Value),RepLL K a v → (∀ r ∈ a,closedL r = true) → RepLL K' a v
 | [],_,r,_ => by simpa only [RepLL] using r
 | a :: ts,v,r,hb => by
  simp only [RepLL] at r ⊢
  obtain ⟨u,us,hv,h2,h3⟩:=r
  exact ⟨u,us,hv,RepL.closed hg a u h2 (hb a (by simp)),RepLL.closed hg ts us h3 (fun r hr => hb r (by simp [hr]))⟩
end
mutual
def nest1 (bad : Nat → Bool) : AV → Bool
 | .ptr .. | .arr .. | .map _ | .ref _ => false
 | .func _ a b => nestL bad a && nestL bad b
 | .list sz _ rows => !bad sz && nestLL bad rows
 | .iface _ v => nest1 bad v
 | .agg cs => nestL bad cs
 | .tup cs => nestL bad cs
 | _ => true
def nestL (bad : Nat → Bool) : List AV → Bool
 | [] => true
 | v :: vs => nest1 bad v && nestL bad vs
def nestLL (bad : Nat → Bool) : List (List AV) → Bool
 | [] => true
 | v :: vs => nestL bad v && nestLL bad vs
end
def Nst (bad : Nat → Bool) (K K' : Ghost) : Prop:=∀ B l,K.g B = some l → (K'.g B = some l ∧ K'.a B = K.a B) ∨ ∃ x,K.a B = some x ∧ bad x.2.2.1 = true
theorem nst_tag {bad : Nat → Bool} {K K' : Ghost} (hc : Nst bad K K') {sz : Nat} {tag : Tag} {len cap B o : Nat} {o' : Nat} {vs : List Value} (hf : K.fix B o' vs) (hb : bad sz = false) (h : K.tagOk sz tag len cap B o) : K'.fix B o' vs ∧ K'.tagOk sz tag len cap B o:=by
 obtain ⟨l0,hf0,hf1⟩:=hf
 rcases hc B l0 hf0 with ⟨g1,a1⟩ | ⟨x,h1,h2⟩
 ·refine ⟨⟨l0,g1,hf1⟩,fun x hx => h.1 x (by rw [← a1]; exact hx),?_⟩
  replace h:=h.2
  cases tag with
  | full => exact h
  | dead => trivial
  | row b e =>
   obtain ⟨⟨x,h1,h2⟩,h3⟩:=h
   refine ⟨⟨x,by rw [a1]; exact h1,h2⟩,fun hlt => ?_⟩
   obtain ⟨E,size,l,e1,e2,rest⟩:=h3 hlt
   rw [hf0] at e2
   simp only [Option.some.injEq] at e2
   subst e2
   exact ⟨E,size,_,by rw [a1]; exact e1,g1,rest⟩
 ·rw [h.1 x h1,hb] at h2
  cases h2
mutual
theorem Rep.nest {bad : Nat → Bool} {K K' : Ghost} (hc : Nst bad K K') : ∀ (a : AV) (v : Value),Rep K a v → nest1 bad a = true → Rep K' a v
 | .bool _,_,r,_ => by simpa only [Rep] using r
 | .int _ _,_,r,_ => by simpa only [Rep] using r
 | .str _,_,r,_ => by simpa only [Rep] using r
 | .nilp,_,r,_ => by simpa only [Rep] using r
 | .nilm,_,r,_ => by simpa only [Rep] using r
 | .nilf,_,r,_ => by simpa only [Rep] using r
 | .nili,_,r,_ => by simpa only [Rep] using r
 | .undef,_,r,_ => by simpa only [Rep] using r
 | .ptr _ _,_,_,hb => by simp [nest1] at hb
 | .map _,_,_,hb => by simp [nest1] at hb
 | .arr _ _ _ _,_,_,hb => by simp [nest1] at hb
 | .ref _,_,_,hb => by simp [nest1] at hb
 | .func f a b,v,r,hb => by
  simp only [Rep] at r ⊢
  simp only [nest1,Bool.and_eq_true] at hb
  obtain ⟨us,vs,hv,h1,h2⟩:=r
  exact ⟨us,vs,hv,RepT.nest hc a us h1 hb.1,RepT.nest hc b vs h2 hb.2⟩
 | .list sz tag rows,v,r,hb => by
  simp only [Rep] at r ⊢
  simp only [nest1,Bool.and_eq_true,Bool.not_eq_true'] at hb
  obtain ⟨base,cap,hv,hcap,hs,hr⟩:=r
  refine ⟨base,cap,hv,hcap,hs,hr.imp id ?_⟩
  rintro ⟨B,o,vs,hb',hf,hr,ht⟩
  obtain ⟨hf2,ht2⟩:=nst_tag hc hf hb.1 ht
  exact ⟨B,o,vs,hb',hf2,RepLL.nest hc rows vs hr hb.2,ht2⟩
 | .iface t x,v,r,hb => by
  simp only [Rep] at r ⊢
  simp only [nest1] at hb
  obtain ⟨u,hv,h1⟩:=r
  exact ⟨u,hv,Rep.nest hc x u h1 hb⟩
 | .agg cs,v,r,hb => by
  simp only [Rep] at r ⊢
  simp only [nest1] at hb
  obtain ⟨vs,hv,h1⟩:=r
  exact ⟨vs,hv,RepL.nest hc cs vs h1 hb⟩
 | .tup cs,v,r,hb => by
  simp only [Rep] at r ⊢
  simp only [nest1] at hb
  obtain ⟨vs,hv,h1⟩:=r
  exact ⟨vs,hv,RepT.nest hc cs vs h1 hb⟩
theorem RepL.nest {bad : Nat → Bool} {K K' : Ghost} (hc : Nst bad K K') : ∀ (a : List AV) (v : List Value),RepL K a v → nestL bad a = true → RepL K' a v
 | [],_,r,_ => by simpa only [RepL] using r
 | a :: xs,v,r,hb => by
  simp only [RepL] at r ⊢
  simp only [nestL,Bool.and_eq_true] at hb
  obtain ⟨u,us,hv,h1,h2,h3⟩:=r
  exact ⟨u,us,hv,h1,Rep.nest hc a u h2 hb.1,RepL.nest hc xs us h3 hb.2⟩
theorem RepT.nest {bad : Nat → Bool} {K K' : Ghost} (hc : Nst bad K K') : ∀ (a : List AV) (v : List Value),RepT K a v → nestL bad a = true → RepT K' a v
 | [],_,r,_ => by simpa only [RepT] using r
 | a :: xs,v,r,hb => by
  simp only [RepT] at r ⊢
  simp only [nestL,Bool.and_eq_true] at hb
  obtain ⟨u,us,hv,h2,h3⟩:=r
  exact ⟨u,us,hv,Rep.nest hc a u h2 hb.1,RepT.nest hc xs us h3 hb.2⟩
theorem RepLL.nest {bad : Nat → Bool} {K K' : Ghost} (hc : Nst bad K K') : ∀ (a : List (List AV)) (v : List Value),RepLL K a v → nestLL bad a = true → RepLL K' a v
 | [],_,r,_ => by simpa only [RepLL] using r
 | a :: xs,v,r,hb => by
  simp only [RepLL] at r ⊢
  simp only [nestLL,Bool.and_eq_true] at hb
  obtain ⟨u,us,hv,h2,h3⟩:=r
  exact ⟨u,us,hv,RepL.nest hc a u h2 hb.1,RepLL.nest hc xs us h3 hb.2⟩
end
def outK (K : Ghost) (B0 : Nat) (l : List Value) (m Bm b : Nat) : Ghost where
 m n:=if n = m then some Bm else none
 g B:=if B = B0 then some l else K.g B
 a B:=if B = B0 then some (b,0,999999,l.length) else K.a B
def intsM (es : List (Str × AV)) : Bool:=es.all fun x => match x.2 with
 | .int _ _ => true
 | _ => false
theorem repM_ints {K K' : Ghost} : ∀ {es : List (Str × AV)} {ms : List MapEntry},intsM es = true → RepM K es ms → RepM K' es ms
 | [],_,_,h => by simpa only [RepM] using h
 | (k,a) :: es,ms,hb,h => by
  simp only [RepM] at h ⊢
  simp only [intsM,List.all_cons,Bool.and_eq_true] at hb
  obtain ⟨x,ms',h1,h2,h3,h4⟩:=h
  refine ⟨x,ms',h1,h2,?_,repM_ints hb.2 h4⟩
  cases a <;> first | (simp at hb; done) | simpa only [Rep] using h3
theorem rel_out {K : Ghost} {S : St} {w : World} (R : Rel K S w) {n0 B0 m Bm : Nat} {cs : List AV} {es : List (Str × AV)} (h0 : K.m n0 = some B0) (hc : S.heap[n0]? = some (.cells cs)) (hm : K.m m = some Bm) (hM : S.heap[m]? = some (.map es)) (hes : intsM es = true) :
  ∃ vs t,w.heap[B0]? = some (.cells vs t (0,0)) ∧ RepL K cs vs.toList ∧ Rel (outK K B0 vs.toList m Bm S.rows.length) ⟨S.heap,S.rows ++ [0]⟩ w:=by
 obtain ⟨vs,t,e1,e2⟩:=R.cells n0 B0 cs h0 hc
 have hne : Bm ≠ B0:=fun e => by
  have:=R.inj m n0 B0 (e ▸ hm) h0
  rw [this,hc] at hM
  simp at hM
 refine ⟨vs,t,e1,e2,?_,?_,?_,?_,?_,?_,?_⟩
 ·intro n B h
  simp only [outK] at h
  split at h
  ·subst n
   exact R.dom m Bm hm
  ·simp at h
 ·intro n n' B h h'
  simp only [outK] at h h'
  split at h <;> split at h' <;> simp_all
 ·intro n B h
  simp only [outK] at h ⊢
  split at h
  ·simp only [Option.some.injEq] at h
   subst h
   rw [if_neg hne]
   exact R.sep m Bm hm
  ·simp at h
 ·intro n B cs' h hb
  simp only [outK] at h
  split at h
  ·subst n
   simp only [hM,Option.some.injEq,reduceCtorEq] at hb
  ·simp at h
 ·intro n B es' h hb
  simp only [outK] at h
  split at h
  ·subst n
   simp only [Option.some.injEq] at h
   subst h
   simp only [hM,Option.some.injEq,Blk.map.injEq] at hb
   subst hb
   obtain ⟨ms,ck,h1,h2⟩:=R.maps m Bm es hm hM
   exact ⟨ms,ck,h1,repM_ints hes h2⟩
  ·simp at h
 ·intro B l h
  simp only [outK] at h
  split at h
  ·rename_i e
   subst e
   simp only [Option.some.injEq] at h
   subst h
   exact ⟨vs,t,e1,List.take_of_length_le (Nat.le_refl _)⟩
  ·exact R.rows B l h
 ·intro B b E sz size h
  simp only [outK] at h ⊢
  split at h
  ·rename_i e
   subst e
   simp only [Option.some.injEq,Prod.mk.injEq] at h
   obtain ⟨rfl,rfl,rfl,rfl⟩:=h
   refine ⟨vs.toList,by rw [if_pos rfl],⟨vs,t,e1,by simp⟩,0,by simp,Nat.le_refl _⟩
  ·rename_i e
   obtain ⟨l,h1,h2,r,h3,h4⟩:=R.grow B b E sz size h
   refine ⟨l,by rw [if_neg e]; exact h1,h2,r,?_,h4⟩
   show (S.rows ++ [0])[b]? = some r
   rw [List.getElem?_append_left (List.getElem?_eq_some_iff.1 h3).1]
   exact h3
theorem repL_out {K : Ghost} {S : St} {w : World} (R : Rel K S w) {n0 B0 m Bm b : Nat} {l : List Value} (h0 : K.m n0 = some B0) (hm : K.m m = some Bm) : ∀ {cs : List AV} {vs : List Value},(∀ x ∈ cs,closed1 x = true ∨ x = .map m) → RepL K cs vs → RepL (outK K B0 l m Bm b) cs vs:=by
 have hgn : ∀ B l,K.g B = some l → B ≠ B0:=fun B l h e => by
  subst e
  rw [R.sep n0 B h0] at h
  simp at h
 have hg : ∀ B l',K.g B = some l' → (outK K B0 l m Bm b).g B = some l' ∧ (outK K B0 l m Bm b).a B = K.a B:=fun B l' h => by
  simp only [outK]
  rw [if_neg (hgn B l' h),if_neg (hgn B l' h)]
  exact ⟨h,rfl⟩
 intro cs
 induction cs with
 | nil => intro vs _ h; simpa only [RepL] using h
 | cons c cs ih =>
  intro vs hc h
  simp only [RepL] at h ⊢
  obtain ⟨v,vs',h1,h2,h3,h4⟩:=h
  refine ⟨v,vs',h1,h2,?_,ih (fun x hx => hc x (List.mem_cons_of_mem _ hx)) h4⟩
  rcases hc c List.mem_cons_self with h5 | rfl
  ·exact Rep.closed hg c v h3 h5
  ·simp only [Rep] at h3 ⊢
   obtain ⟨B,h6,h7⟩:=h3
   rw [hm] at h6
   simp only [Option.some.injEq] at h6
   subst h6
   exact ⟨Bm,by simp [outK],h7⟩
theorem ref_out {K : Ghost} {S : St} {w : World} (R : Rel K S w) {n0 B0 m Bm b : Nat} {cs : List AV} {vs : Array Value} (h0 : K.m n0 = some B0) (hm : K.m m = some Bm) (hc : ∀ x ∈ cs,closed1 x = true ∨ x = .map m) (h : RepL K cs vs.toList) : Rep (outK K B0 vs.toList m Bm b) (.ref cs) (.pointer (some ⟨B0,0,none⟩)):=by
 simp only [Rep]
 exact ⟨B0,0,vs.toList,rfl,⟨vs.toList,by simp [outK],List.take_of_length_le (Nat.le_refl _)⟩,repL_out R h0 hm hc h⟩
theorem rel_back {K K2 : Ghost} {S S2 : St} {w w2 : World} (R : Rel K S w) {n0 B0 m Bm b : Nat} {X : Nat → Prop} {cs : List AV} {es : List (Str × AV)} {vs : Array Value} {t : TypeId} (h0 : K.m n0 = some B0) (hc : S.heap[n0]? = some (.cells cs)) (hm : K.m m = some Bm) (hM : S.heap[m]? = some (.map es)) (hes : intsM es = true)
  (e1 : w.heap[B0]? = some (.cells vs t (0,0))) (e2 : RepL K cs vs.toList) (hst : Step (outK K B0 vs.toList m Bm b) X w K2 w2) (R2 : Rel K2 S2 w2) (hM2 : S2.heap[m]? = some (.map es)) : Rel K ⟨S.heap,S2.rows⟩ w2:=by
 have hgn : ∀ B l,K.g B = some l → B ≠ B0:=fun B l h e => by
  subst e
  rw [R.sep n0 B h0] at h
  simp at h
 have hne : Bm ≠ B0:=fun e => by
  have:=R.inj m n0 B0 (e ▸ hm) h0
  rw [this,hc] at hM
  simp at hM
 have hm2 : K2.m m = some Bm:=hst.ext.m m Bm (by simp [outK])
 have fr : ∀ n B,K.m n = some B → n ≠ m → n ≠ n0 → B < w.heap.size → w2.heap[B]? = w.heap[B]?:=fun n B hn h1 h2 hlt => by
  refine hst.frame B hlt (fun k hk => ?_) ?_
  ·simp only [outK] at hk
   split at hk
   ·simp only [Option.some.injEq] at hk
    subst hk
    exact h1 (R.inj n m _ hn hm)
   ·simp at hk
  ·simp only [outK]
   rw [if_neg (fun e => h2 (R.inj n n0 B hn (by rw [e]; exact h0)))]
   exact R.sep n B hn
 have hB0 : ∃ t',w2.heap[B0]? = some (.cells vs t' (0,0)):=by
  obtain ⟨E',ha,-,hl⟩:=hst.ext.a B0 b 0 999999 vs.toList.length (by simp [outK])
  obtain ⟨x,hx⟩:=hst.ext.g B0 vs.toList (by simp [outK])
  have hlen:=hl vs.toList _ (by simp [outK]) hx
  obtain ⟨l',g1,⟨us,t',g2,g3⟩,-⟩:=R2.grow B0 b E' 999999 _ ha
  obtain ⟨us',t'',g4,g5⟩:=R2.rows B0 _ hx
  have:=g2.symm.trans g4
  simp only [Option.some.injEq,Obj.cells.injEq] at this
  obtain ⟨rfl,rfl,-⟩:=this
  have hx0 : x = []:=by
   have h6:=congrArg List.length g5
   rw [List.length_take,List.length_append] at h6
   simp only [Array.length_toList] at h6 g3
   have h7 : x.length = 0:=by omega
   exact List.length_eq_zero_iff.1 h7
  subst hx0
  rw [List.append_nil] at g5
  refine ⟨t',?_⟩
  have : us = vs:=by
   apply Array.ext'
   rw [← g5,List.take_of_length_le]
   simp at g3 ⊢
   omega
  rw [← this]
  exact g2
 refine ⟨R.dom,R.inj,R.sep,?_,?_,?_,?_⟩
 ·intro n B cs' hn hb
  by_cases h2 : n = n0
  ·subst h2
   rw [h0] at hn
   simp only [Option.some.injEq] at hn
   subst hn
   simp only [hc,Option.some.injEq,Blk.cells.injEq] at hb
   subst hb
   obtain ⟨t',g⟩:=hB0
   exact ⟨vs,t',g,e2⟩
  ·have h1 : n ≠ m:=fun e => by
    subst e
    simp only [hM,Option.some.injEq,reduceCtorEq] at hb
   obtain ⟨us,t',g1,g2⟩:=R.cells n B cs' hn hb
   exact ⟨us,t',by rw [fr n B hn h1 h2 (Array.getElem?_eq_some_iff.1 g1).1]; exact g1,g2⟩
 ·intro n B es' hn hb
  by_cases h1 : n = m
  ·subst h1
   rw [hm] at hn
   simp only [Option.some.injEq] at hn
   subst hn
   simp only [hM,Option.some.injEq,Blk.map.injEq] at hb
   subst hb
   obtain ⟨ms,ck,g1,g2⟩:=R2.maps _ _ es hm2 hM2
   exact ⟨ms,ck,g1,repM_ints hes g2⟩
  ·have h2 : n ≠ n0:=fun e => by
    subst e
    simp only [hc,Option.some.injEq,reduceCtorEq] at hb
   obtain ⟨us,t',g1,g2⟩:=R.maps n B es' hn hb
   exact ⟨us,t',by rw [fr n B hn h1 h2 (Array.getElem?_eq_some_iff.1 g1).1]; exact g1,g2⟩
 ·intro B l h
  obtain ⟨x,hx⟩:=hst.ext.g B l (by simp only [outK]; rw [if_neg (hgn B l h)]; exact h)
  obtain ⟨us,t',g1,g2⟩:=R2.rows B _ hx
  refine ⟨us,t',g1,?_⟩
  have:=congrArg (List.take l.length) g2
  have h5 : min l.length (l ++ x).length = l.length:=by simp
  rw [List.take_take,h5,List.take_left] at this
  exact this
 ·intro B b' E sz size h
  obtain ⟨l,h1,-,-⟩:=R.grow B b' E sz size h
  obtain ⟨E',ha,hle,-⟩:=hst.ext.a B b' E sz size (by simp only [outK]; rw [if_neg (hgn B l h1)]; exact h)
  obtain ⟨l2,g1,g2,r,g3,g4⟩:=R2.grow B b' E' sz size ha
  exact ⟨l,h1,g2,r,g3,Nat.le_trans hle g4⟩
end Go.Proofs.YtmeakjgbjldkdaaGreat.Ai
namespace Go.Proofs.YtmeakjgbjldkdaaGreat.Ai
open Go
variable {P : Program}
theorem exec_seq_inv {b0 : Nat} {cl : CallFn} {n : Nat} {a b : IC} {e e2 : Env} {S S2 : St} (h : exec b0 cl n (.seq a b) e S = some (.normal,e2,S2)) : ∃ e1 S1,exec b0 cl n a e S = some (.normal,e1,S1) ∧ exec b0 cl n b e1 S1 = some (.normal,e2,S2):=by
 simp only [exec] at h
 split at h
 ·rename_i e1 S1 h1
  exact ⟨e1,S1,h1,h⟩
 ·rename_i hne
  exact absurd h (hne _ _)
theorem csim_norm {b0 nt n : Nat} {cl : CallFn} (hcl : CallSim P cl) {ic : IC} {c : Code} {K : Ghost} {S S' : St} {w : World} {a : Act} {e e' : Env} (hc : chkC P nt ic c = true) (R : Rel K S w) (hI : Inner S.heap.length S) (E : EnvRep K (eget e) a.tmps) (hnt : nt ≤ a.tmps.size) (hb0 : b0 ≤ S.heap.length)
  (hx : exec b0 cl n ic e S = some (.normal,e',S')) {Q : Exit → Act → World → Prop}
  (hQ : ∀ a' w' K',Rel K' S' w' → EnvRep K' (eget e') a'.tmps → a'.defers = a.defers → a'.tmps.size = a.tmps.size → Step K (fun n => n < S.heap.length) w K' w' → Keeps b0 S S' → Q .normal a' w') : c.wp P Q a w:=
 csim hcl ic c K S w a e _ hc R hI E hnt hb0 hx Q (fun a' w' K' en R' E' hd hs hst hk hex => by
  cases en <;> simp only [Exr] at hex
  exact hQ a' w' K' R' (E' trivial) hd (hs trivial) hst hk)
def bad13 (s : Nat) : Bool:=s == 13 || s == 999999
noncomputable def midK (K K1 : Ghost) (B0 : Nat) : Ghost:={m:=K.m,g:=fun B => if B = B0 then none else K1.g B,a:=fun B => if B = B0 then none else K1.a B}
theorem rel_mid {K K1 : Ghost} {S S1 : St} {w w1 : World} (R : Rel K S w) {n0 B0 m Bm b : Nat} {X : Nat → Prop} {cs : List AV} {es : List (Str × AV)} {vs : Array Value} {t : TypeId} (h0 : K.m n0 = some B0) (hc : S.heap[n0]? = some (.cells cs)) (hm : K.m m = some Bm) (hM : S.heap[m]? = some (.map es)) (hes : intsM es = true)
  (e1 : w.heap[B0]? = some (.cells vs t (0,0))) (e2 : RepL K cs vs.toList) (hst : Step (outK K B0 vs.toList m Bm b) X w K1 w1) (R1 : Rel K1 S1 w1) (hM1 : S1.heap[m]? = some (.map es)) :
  Rel K ⟨S.heap,S1.rows⟩ w1 ∧ Rel (midK K K1 B0) ⟨S.heap,S1.rows⟩ w1 ∧ (∀ Y,Step K Y w (midK K K1 B0) w1) ∧ Nst bad13 K1 (midK K K1 B0):=by
 have Rb:=rel_back R h0 hc hm hM hes e1 e2 hst R1 hM1
 have hgn : ∀ B l,K.g B = some l → B ≠ B0:=fun B l h e => by
  subst e
  rw [R.sep n0 B h0] at h
  simp at h
 have hog : ∀ B,B ≠ B0 → (outK K B0 vs.toList m Bm b).g B = K.g B ∧ (outK K B0 vs.toList m Bm b).a B = K.a B:=fun B h => by
  simp only [outK]
  rw [if_neg h,if_neg h]
  exact ⟨rfl,rfl⟩
 have hx : Ext K (midK K K1 B0):=by
  refine ⟨fun _ _ h => h,fun B l h => ?_,fun B b E sz size h => ?_,fun B l hg h => ?_⟩
  ·obtain ⟨x,hx⟩:=hst.ext.g B l (by rw [(hog B (hgn B l h)).1]; exact h)
   exact ⟨x,by simp only [midK]; rw [if_neg (hgn B l h)]; exact hx⟩
  ·obtain ⟨l,hl,-⟩:=R.grow B b E sz size h
   have hne:=hgn B l hl
   obtain ⟨E',h1,h2,h3⟩:=hst.ext.a B b E sz size (by rw [(hog B hne).2]; exact h)
   refine ⟨E',by simp only [midK]; rw [if_neg hne]; exact h1,h2,fun x y hx hy => ?_⟩
   simp only [midK] at hy
   rw [if_neg hne] at hy
   exact h3 x y (by rw [(hog B hne).1]; exact hx) hy
  ·have hne:=hgn B l hg
   simp only [midK]
   rw [if_neg hne]
   exact hst.ext.n B l (by rw [(hog B hne).1]; exact hg) (by rw [(hog B hne).2]; exact h)
 have hm1 : K1.m m = some Bm:=hst.ext.m m Bm (by simp [outK])
 have hout : ∀ B,(∀ n,K.m n ≠ some B) → K.g B = none → (∀ n,(outK K B0 vs.toList m Bm b).m n ≠ some B) ∧ (outK K B0 vs.toList m Bm b).g B = none:=fun B h1 h2 => by
  refine ⟨fun n hn => ?_,?_⟩
  ·simp only [outK] at hn
   split at hn
   ·simp only [Option.some.injEq] at hn
    subst hn
    exact h1 m hm
   ·simp at hn
  ·rw [(hog B (fun e => h1 n0 (by rw [e]; exact h0))).1]
   exact h2
 refine ⟨Rb,⟨R.dom,R.inj,fun n B h => ?_,fun n B cs' h hb => ?_,fun n B es' h hb => ?_,fun B l h => ?_,fun B b' E sz size h => ?_⟩,fun Y => ⟨hx,hst.os,hst.tape,hst.output,hst.size,fun B hB h1 h2 => ?_,fun B hB h1 h2 => ?_,fun _ _ h => h,fun B x h => ?_⟩,fun B l h => ?_⟩
 ·show (if B = B0 then none else K1.g B) = none
  split
  ·rfl
  ·rename_i hne
   by_cases hnm : n = m
   ·subst hnm
    change K.m n = some B at h
    rw [hm] at h
    simp only [Option.some.injEq] at h
    subst h
    exact R1.sep n Bm hm1
   ·have hlt : B < w.heap.size:=m_lt R h
    refine (hst.fresh B hlt (fun k hk => ?_) ?_).2
    ·simp only [outK] at hk
     split at hk
     ·simp only [Option.some.injEq] at hk
      subst hk
      exact hnm (R.inj n m _ h hm)
     ·simp at hk
    ·rw [(hog B hne).1]
     exact R.sep n B h
 ·obtain ⟨vs',t',h1,h2⟩:=Rb.cells n B cs' h hb
  exact ⟨vs',t',h1,RepL.ext hx _ _ h2⟩
 ·obtain ⟨ms,ck,h1,h2⟩:=Rb.maps n B es' h hb
  exact ⟨ms,ck,h1,h2.ext hx⟩
 ·simp only [midK] at h
  split at h
  ·simp at h
  ·exact R1.rows B l h
 ·simp only [midK] at h
  split at h
  ·simp at h
  ·rename_i hne
   obtain ⟨l,h1,h2⟩:=R1.grow B b' E sz size h
   exact ⟨l,by simp only [midK]; rw [if_neg hne]; exact h1,h2⟩
 ·obtain ⟨h3,h4⟩:=hout B h1 h2
  exact hst.frame B hB h3 h4
 ·obtain ⟨h3,h4⟩:=hout B h1 h2
  refine ⟨h1,?_⟩
  simp only [midK]
  split
  ·rfl
  ·exact (hst.fresh B hB h3 h4).2
 ·simp only [midK] at h
  split at h
  ·simp at h
  ·rename_i hne
   rcases hst.born B x h with ⟨y,hy⟩ | h5
   ·exact .inl ⟨y,by rw [← (hog B hne).2]; exact hy⟩
   ·exact .inr h5
 ·by_cases hB : B = B0
  ·right
   subst hB
   obtain ⟨E',h1,-,-⟩:=hst.ext.a B b 0 999999 vs.toList.length (by simp [outK])
   exact ⟨_,h1,rfl⟩
  ·left
   simp only [midK]
   rw [if_neg hB,if_neg hB]
   exact ⟨h,rfl⟩
noncomputable def rowK (K : Ghost) (Br : Nat) (l : List Value) : Ghost:={K with g:=fun B => if B = Br then some l else K.g B,a:=fun B => if B = Br then none else K.a B}
theorem rel_row {K Km : Ghost} {S S' : St} {w w1 w2 : World} (R0 : Rel K S w) (Rb : Rel K S' w1) (R : Rel Km S' w1) {Y : Nat → Prop} (hst : Step K Y w Km w1) {Br : Nat} {lr l' : List Value} (hnew : w.heap.size ≤ Br) (hg : Km.g Br = some lr) (hk : Km.m = K.m)
  (hos : w2.os = w1.os) (htape : w2.tape = w1.tape) (hout : w2.output = w1.output) (hsize : w1.heap.size ≤ w2.heap.size) (hoth : ∀ B,B < w1.heap.size → B ≠ Br → w2.heap[B]? = w1.heap[B]?)
  {cur : Array Value} {t : TypeId} (hcur : w2.heap[Br]? = some (.cells cur t (0,0))) (hl : cur.toList.take l'.length = l') :
  Rel (rowK Km Br l') S' w2 ∧ Step K Y w (rowK Km Br l') w2:=by
 have hmne : ∀ n B,Km.m n = some B → B ≠ Br:=fun n B h e => by
  have:=R.sep n B h
  rw [e,hg] at this
  cases this
 have hKg : ∀ B l,K.g B = some l → B ≠ Br:=fun B l h e => by
  have:=g_lt R0 h
  omega
 have hx : Ext K (rowK Km Br l'):=by
  refine ⟨hst.ext.m,fun B l h => ?_,fun B b E sz size h => ?_,fun B l h1 h2 => ?_⟩
  ·simp only [rowK]
   rw [if_neg (hKg B l h)]
   exact hst.ext.g B l h
  ·obtain ⟨l0,hl0,-⟩:=R0.grow B b E sz size h
   obtain ⟨E',h1,h2,h3⟩:=hst.ext.a B b E sz size h
   refine ⟨E',by simp only [rowK]; rw [if_neg (hKg B l0 hl0)]; exact h1,h2,fun x y hx hy => h3 x y hx ?_⟩
   simp only [rowK] at hy
   rw [if_neg (hKg B x hx)] at hy
   exact hy
  ·simp only [rowK]
   rw [if_neg (hKg B l h1)]
   exact hst.ext.n B l h1 h2
 refine ⟨⟨R.dom,R.inj,fun n B h => ?_,fun n B cs' h hb => ?_,fun n B es' h hb => ?_,fun B l h => ?_,fun B b' E sz size h => ?_⟩,⟨hx,hos.trans hst.os,htape.trans hst.tape,hout.trans hst.output,Nat.le_trans hst.size hsize,fun B hB h1 h2 => ?_,fun B hB h1 h2 => ?_,fun n hn h => hst.back n hn h,fun B x h => ?_⟩⟩
 ·show (if B = Br then some l' else Km.g B) = none
  have hne : B ≠ Br:=hmne n B h
  rw [if_neg hne]
  exact R.sep n B h
 ·have hKm : K.m n = some B:=by rw [← hk]; exact h
  obtain ⟨vs',t',h1,h2⟩:=Rb.cells n B cs' hKm hb
  exact ⟨vs',t',by rw [hoth B (m_lt Rb hKm) (hmne n B h)]; exact h1,RepL.ext hx _ _ h2⟩
 ·have hKm : K.m n = some B:=by rw [← hk]; exact h
  obtain ⟨ms,ck,h1,h2⟩:=Rb.maps n B es' hKm hb
  exact ⟨ms,ck,by rw [hoth B (m_lt Rb hKm) (hmne n B h)]; exact h1,h2.ext hx⟩
 ·simp only [rowK] at h
  split at h
  ·rename_i e
   subst e
   simp only [Option.some.injEq] at h
   subst h
   exact ⟨cur,t,hcur,hl⟩
  ·rename_i hne
   obtain ⟨vs',t',h1,h2⟩:=R.rows B l h
   exact ⟨vs',t',by rw [hoth B (g_lt R h) hne]; exact h1,h2⟩
 ·simp only [rowK] at h
  split at h
  ·simp at h
  ·rename_i hne
   obtain ⟨l,h1,⟨vs',t',h2,h3⟩,h4⟩:=R.grow B b' E sz size h
   refine ⟨l,by simp only [rowK]; rw [if_neg hne]; exact h1,⟨vs',t',by rw [hoth B (g_lt R h1) hne]; exact h2,h3⟩,h4⟩
 ·have hne : B ≠ Br:=by omega
  rw [hoth B (Nat.lt_of_lt_of_le hB hst.size) hne]
  exact hst.frame B hB h1 h2
 ·obtain ⟨h3,h4⟩:=hst.fresh B hB h1 h2
  refine ⟨h3,?_⟩
  simp only [rowK]
  rw [if_neg (by omega)]
  exact h4
 ·simp only [rowK] at h
  split at h
  ·simp at h
  ·exact hst.born B x h
theorem nst_row {bad : Nat → Bool} {K1 Km : Ghost} (h : Nst bad K1 Km) {Br : Nat} {l' : List Value} {x : Nat × Nat × Nat × Nat} (ha : K1.a Br = some x) (hb : bad x.2.2.1 = true) : Nst bad K1 (rowK Km Br l'):=by
 intro B l hg
 by_cases hB : B = Br
 ·subst hB
  exact .inr ⟨x,ha,hb⟩
 ·rcases h B l hg with ⟨h1,h2⟩ | h3
  ·left
   simp only [rowK]
   rw [if_neg hB,if_neg hB]
   exact ⟨h1,h2⟩
  ·exact .inr h3
end Go.Proofs.YtmeakjgbjldkdaaGreat.Ai
namespace Go.Proofs.YtmeakjgbjldkdaaGreat.Ai
open Go Go.Sort Go.Proofs.YtmeakjgbjldkdaaGreat.Slo
def keysOf : List (List AV) → Option (List Str)
 | [] => some []
 | (.str k :: _) :: rs => match keysOf rs with
  | some l => some (k :: l)
  | none => none
 | _ => none
def rowFor (k : Str) : List Str → List (List AV) → List AV
 | k' :: ks,r :: rs => if k' = k then r else rowFor k ks rs
 | _,_ => []
def sortRows (ks : List Str) (rows : List (List AV)) : List (List AV):=(sortB ks).map fun k => rowFor k ks rows
def valFor (k : Str) : List Str → List (List Value) → List Value
 | k' :: ks,u :: us => if k' = k then u.tail else valFor k ks us
 | _,_ => List.replicate 12 (.bool false)
theorem RepLL.chunks {K : Ghost} : ∀ {rows : List (List AV)} {vr : List Value},RepLL K rows vr → ∃ us : List (List Value),vr = us.flatten ∧ us.length = rows.length ∧ ∀ (i : Nat) (r : List AV) (u : List Value),rows[i]? = some r → us[i]? = some u → RepL K r u
 | [],vr,h => by
  simp only [RepLL] at h
  subst h
  exact ⟨[],rfl,rfl,fun i r u h => by simp at h⟩
 | r :: rs,vr,h => by
  simp only [RepLL] at h
  obtain ⟨u,us,rfl,h1,h2⟩:=h
  obtain ⟨us',rfl,h4,h5⟩:=RepLL.chunks h2
  refine ⟨u :: us',rfl,by simp [h4],fun i r' u' hr hu => ?_⟩
  cases i with
  | zero =>
   simp only [List.getElem?_cons_zero,Option.some.injEq] at hr hu
   subst hr hu
   exact h1
  | succ i =>
   simp only [List.getElem?_cons_succ] at hr hu
   exact h5 i r' u' hr hu
theorem keysOf_len : ∀ {rows : List (List AV)} {ks : List Str},keysOf rows = some ks → ks.length = rows.length
 | [],ks,h => by simp only [keysOf,Option.some.injEq] at h; subst h; rfl
 | r :: rs,ks,h => by
  unfold keysOf at h
  split at h
  ·rename_i heq
   cases heq
  ·rename_i heq
   simp only [List.cons.injEq] at heq
   obtain ⟨-,rfl⟩:=heq
   split at h
   ·rename_i l hl
    simp only [Option.some.injEq] at h
    subst h
    simp [keysOf_len hl]
   ·simp at h
  ·simp at h
theorem keysOf_get : ∀ {rows : List (List AV)} {ks : List Str},keysOf rows = some ks → ∀ (i : Nat) (k : Str) (r : List AV),ks[i]? = some k → rows[i]? = some r → ∃ r',r = AV.str k :: r'
 | [],ks,h,i,k,r,hk,hr => by simp at hr
 | r0 :: rs,ks,h,i,k,r,hk,hr => by
  unfold keysOf at h
  split at h
  ·rename_i heq
   cases heq
  ·rename_i k0 r0' rs' heq
   simp only [List.cons.injEq] at heq
   obtain ⟨rfl,rfl⟩:=heq
   split at h
   ·rename_i l hl
    simp only [Option.some.injEq] at h
    subst h
    cases i with
    | zero =>
     simp only [List.getElem?_cons_zero,Option.some.injEq] at hk hr
     subst hk hr
     exact ⟨_,rfl⟩
    | succ i =>
     simp only [List.getElem?_cons_succ] at hk hr
     exact keysOf_get hl i k r hk hr
   ·simp at h
  ·simp at h
theorem rowFor_get {k : Str} : ∀ {ks : List Str} {rows : List (List AV)} {i : Nat} {r : List AV},ks.Nodup → ks[i]? = some k → rows[i]? = some r → rowFor k ks rows = r
 | [],rows,i,r,_,h,_ => by simp at h
 | k' :: ks,[],i,r,_,_,h => by simp at h
 | k' :: ks,r' :: rows,i,r,hn,hk,hr => by
  rw [List.nodup_cons] at hn
  unfold rowFor
  cases i with
  | zero =>
   simp only [List.getElem?_cons_zero,Option.some.injEq] at hk hr
   rw [if_pos hk,hr]
  | succ i =>
   simp only [List.getElem?_cons_succ] at hk hr
   rw [if_neg (fun e : k' = k => hn.1 (by rw [e]; exact List.mem_of_getElem? hk))]
   exact rowFor_get hn.2 hk hr
theorem valFor_get {k : Str} : ∀ {ks : List Str} {us : List (List Value)} {i : Nat} {u : List Value},ks.Nodup → ks[i]? = some k → us[i]? = some u → valFor k ks us = u.tail
 | [],us,i,u,_,h,_ => by simp at h
 | k' :: ks,[],i,u,_,_,h => by simp at h
 | k' :: ks,u' :: us,i,u,hn,hk,hr => by
  rw [List.nodup_cons] at hn
  unfold valFor
  cases i with
  | zero =>
   simp only [List.getElem?_cons_zero,Option.some.injEq] at hk hr
   rw [if_pos hk,hr]
  | succ i =>
   simp only [List.getElem?_cons_succ] at hk hr
   rw [if_neg (fun e : k' = k => hn.1 (by rw [e]; exact List.mem_of_getElem? hk))]
   exact valFor_get hn.2 hk hr
theorem valFor_cases (k : Str) : ∀ (ks : List Str) (us : List (List Value)),(∃ u ∈ us,valFor k ks us = u.tail) ∨ valFor k ks us = List.replicate 12 (.bool false)
 | [],us => .inr (by unfold valFor; rfl)
 | k' :: ks,[] => .inr (by unfold valFor; rfl)
 | k' :: ks,u :: us => by
  unfold valFor
  split
  ·exact .inl ⟨u,List.mem_cons_self,rfl⟩
  ·rcases valFor_cases k ks us with ⟨x,hx,h⟩ | h
   ·exact .inl ⟨x,List.mem_cons_of_mem _ hx,h⟩
   ·exact .inr h
theorem flat13_get (enc : List UInt8 → List Value) (henc : ∀ k,(enc k).length = 13) : ∀ (l : List (List UInt8)) (t : Nat),t < l.length * 13 → (l.map enc).flatten[t]? = some ((enc (l.toArray[t / 13]!))[t % 13]!)
 | [],t,h => by simp at h
 | x :: l,t,h => by
  simp only [List.map_cons,List.flatten_cons]
  by_cases ht : t < 13
  ·have h0 : t / 13 = 0:=Nat.div_eq_of_lt ht
   have h1 : t % 13 = t:=Nat.mod_eq_of_lt ht
   rw [List.getElem?_append_left (by rw [henc]; exact ht),h0,h1]
   have h2 : (x :: l).toArray[0]! = x:=by simp
   rw [h2,getElem!_pos (enc x) t (by rw [henc]; exact ht),List.getElem?_eq_getElem (by rw [henc]; exact ht)]
  ·have ih:=flat13_get enc henc l (t - 13) (by simp only [List.length_cons] at h; omega)
   rw [List.getElem?_append_right (by rw [henc]; omega),henc,ih]
   have h0 : t / 13 = (t - 13) / 13 + 1:=by omega
   have h1 : t % 13 = (t - 13) % 13:=by omega
   rw [h0,h1]
   have h2 : (x :: l).toArray[(t - 13) / 13 + 1]! = l.toArray[(t - 13) / 13]!:=by simp
   rw [h2]
theorem flat_len13 (enc : List UInt8 → List Value) (henc : ∀ k,(enc k).length = 13) (l : List (List UInt8)) : (l.map enc).flatten.length = l.length * 13:=by
 induction l with
 | nil => rfl
 | cons x l ih => simp only [List.map_cons,List.flatten_cons,List.length_append,ih,henc,List.length_cons]; omega
theorem flatK_list (enc : List UInt8 → List Value) (henc : ∀ k,(enc k).length = 13) (l : List (List UInt8)) : (flatK enc 13 l.toArray).toList = (l.map enc).flatten:=by
 apply List.ext_getElem?
 intro t
 by_cases ht : t < l.length * 13
 ·rw [flat13_get enc henc l t ht]
  simp only [flatK,Array.toList_map,List.getElem?_map,Array.toList_range,List.size_toArray,List.getElem?_range ht,Option.map_some]
 ·rw [List.getElem?_eq_none (by simp [flatK]; omega),List.getElem?_eq_none (by rw [flat_len13 enc henc]; omega)]
end Go.Proofs.YtmeakjgbjldkdaaGreat.Ai
namespace Go.Proofs.YtmeakjgbjldkdaaGreat.Ai
open Go
variable {pr : Prims} {F : Nat → Option IFn}
theorem detr_chain (L : LibE pr F) {H : List Blk} {rw : List Nat} {n mb z zb : Nat} {tg tb : Tag} {cs : List Cls} {U : List (List Nat)} {o1 o2 o3 sl : AV} (T : TabU H n mb cs z tg zb tb U o1 o2 o3 sl) (s : Str) :
  ∃ (v : AV) (rw' : List Nat),Lst rw 1 v (ixRows (chainF cs s)) rw' ∧ Rx rw rw' ∧ Det pr F 66 [.ref [.list z tg (cs.map clsRow),.map mb,.list zb tb (U.map upRow),o1,o2,o3,sl],.str s] ⟨H,rw⟩ (.ret v) ⟨H,rw'⟩:=by
 have hm:=L.hm
 suffices h : Wp pr F 66 [.ref [.list z tg (cs.map clsRow),.map mb,.list zb tb (U.map upRow),o1,o2,o3,sl],.str s] ⟨H,rw⟩ fun r S' => ∃ (v : AV) (rw' : List Nat),Lst rw 1 v (ixRows (chainF cs s)) rw' ∧ Rx rw rw' ∧ r = .ret v ∧ S' = ⟨H,rw'⟩ by
  obtain ⟨r,S',hd,v,rw',h1,h2,rfl,rfl⟩:=h.det hm
  exact ⟨v,rw',h1,h2,hd⟩
 have hlt : n < H.length:=(List.getElem?_eq_some_iff.1 T.at_).1
 have hne : n ≠ mb:=by
  intro h
  have:=T.at_
  rw [h,T.mp] at this
  simp at this
 have hFm:=froz_n hne T.mp
 have hfew:=T.few
 have hlm : (cs.map clsRow).length = cs.length:=List.length_map _
 have hmu : ∀ i,muU U i ≤ cs.length:=by
  intro i
  unfold muU
  rw [List.getD_eq_getElem?_getD]
  cases hl : U[i]? with
  | none => simp
  | some l =>
   obtain ⟨bs,hb,-,rfl⟩:=T.ups i l hl
   exact trues_len bs _
 have main : ∀ (cur : Option Nat),cur = place cs s → ∀ w : AV,w = .int .i64 (((cur.getD 0 : Nat) : Int)) → At pr F H.length (fin [RVar.tmp 4] H.length fun r S' => ∃ (v : AV) (rw' : List Nat),Lst rw 1 v (ixRows (chainF cs s)) rw' ∧ Rx rw rw' ∧ r = .ret v ∧ S' = ⟨H,rw'⟩)
   (.loop [0,5,6,7] (.seq (.seq r66_3 (.cond (.tmp 17) (.skip) (.exit 0))) (.seq (.block 1 r66_4) r66_5))) [Fr.blk 0,Fr.code (r66_6.seq IC.ret)]
   [(0,.ref [.list z tg (cs.map clsRow),.map mb,.list zb tb (U.map upRow),o1,o2,o3,sl]),(5,.list 0 .full []),(6,w),(7,.bool cur.isSome)] ⟨hp H n (.cells [.list z tg (cs.map clsRow),.map mb,.list zb tb (U.map upRow),o1,o2,o3,sl]) [],rw⟩:=by
  rintro cur hcur w rfl
  refine at_loop hm (fun mm e S' => ∃ (vis : List Nat) (cur : Option Nat) (k : Nat) (l : AV) (rw' : List Nat),S' = ⟨hp H n (.cells [.list z tg (cs.map clsRow),.map mb,.list zb tb (U.map upRow),o1,o2,o3,sl]) [],rw'⟩ ∧ chainF cs s = vis ++ chainI cs k cur ∧ (∀ i,cur = some i → i < cs.length ∧ muU U i ≤ k) ∧ (cur.isSome = true → vis.length + k ≤ cs.length) ∧ Lst rw 1 l (ixRows vis) rw' ∧ Rx rw rw' ∧
   mm = (if cur.isSome then k + 1 else 0) ∧ e = [(0,.ref [.list z tg (cs.map clsRow),.map mb,.list zb tb (U.map upRow),o1,o2,o3,sl]),(5,l),(6,.int .i64 ((cur.getD 0 : Nat) : Int)),(7,.bool cur.isSome)]) ?_ (m:=if cur.isSome then cs.length + 1 else 0) ⟨[],cur,cs.length,_,rw,rfl,?_,?_,by simp,Lst.nil,Rx.rfl,rfl,rfl⟩
  ·clear hcur cur
   rintro mm e S' ⟨vis,cur,k,l,rw',rfl,hch,hcb,hvl,hl,hR,rfl,rfl⟩
   cases cur with
   | none =>
    simp only [chainI,List.append_nil] at hch
    refine' stH
    exact fin_ret rfl (hl.isL.below _) (hp_take hlt) ⟨l,rw',by rw [hch]; exact hl,hR,rfl,st_of T.at_⟩
   | some i =>
    obtain ⟨hi,hik⟩:=hcb i rfl
    replace hvl:=hvl rfl
    obtain ⟨c,hc⟩ : ∃ c,cs[i]? = some c:=⟨_,List.getElem?_eq_getElem hi⟩
    have hcr : (cs.map clsRow)[i]? = some (clsRow c):=by rw [List.getElem?_map,hc]; rfl
    have hz : z = 9:=T.sz (by intro h; rw [h] at hi; simp at hi)
    subst hz
    have hso : supOf cs i = c.super:=by unfold supOf; rw [hc]
    simp only [Option.getD_some,Option.isSome_some]
    refine' stH
    refine id_append ?_
    refine g_append rfl rfl rfl ?_
    refine ap_lst (row:=ixRow i) hl hR (by simp only [ixRows_len,maxRow]; omega) (by simp only [ixRows_len,maxRow]; omega) (by omega) ?_
    intro l4 rw4 hl4 hR4
    refine zrk6 ?_
    refine' stH
    ·have hup : Up cs i kq:=sup_up T.okc (by rw [hso]; exact hkq)
     have hml:=mu_lt T.ulen T.ups T.linked T.acyc hi hup
     obtain ⟨k',rfl⟩ : ∃ k',k = k' + 1:=⟨k - 1,by omega⟩
     refine ⟨k' + 1,by simp only [if_true]; omega,vis ++ [i],some kq,k',l4,rw4,rfl,?_,?_,by simp; omega,by rw [ixRows_append]; exact hl4,hR4,by simp,rfl⟩
     ·rw [hch,chainI,hso,chainL_eq,hkq,List.append_assoc]
      rfl
     ·intro j hj
      simp only [Option.some.injEq] at hj
      subst hj
      exact ⟨hkl,by omega⟩
    ·refine ⟨0,by simp,vis ++ [i],none,0,l4,rw4,rfl,?_,by simp,by simp,by rw [ixRows_append]; exact hl4,hR4,by simp,rfl⟩
     rw [hch,chainI,hso]
     cases k with
     | zero => simp [chainL,chainI]
     | succ k => rw [chainL_eq,hkq]; simp [chainI]
  ·rw [chainF,chainL_eq,hcur]
   rfl
  ·intro i hi
   rw [hi] at hcur
   obtain ⟨c,hc,-⟩:=place_get hcur.symm
   exact ⟨(List.getElem?_eq_some_iff.1 hc).1,hmu i⟩
 refine at_start_hp hm L.f66.1 L.f66.2 rfl (hp_of T.at_) ?_
 refine' stH
 ·exact main (some kq) hkq.symm _ rfl
 ·exact main none hkq.symm _ rfl
end Go.Proofs.YtmeakjgbjldkdaaGreat.Ai
namespace Go.Proofs.YtmeakjgbjldkdaaGreat.Ai
open Go
variable {pr : Prims} {F : Nat → Option IFn}
theorem detr_roads (L : LibE pr F) {H : List Blk} {rw : List Nat} {n mb z zb : Nat} {tg tb : Tag} {cs : List Cls} {U : List (List Nat)} {o1 o2 o3 sl : AV} (T : TabU H n mb cs z tg zb tb U o1 o2 o3 sl) (s : Str) :
  ∃ (v : AV) (rw' : List Nat),IsL 1 v (ixRows (roadsF cs U s)) ∧ Rx rw rw' ∧ Det pr F 64 [.ref [.list z tg (cs.map clsRow),.map mb,.list zb tb (U.map upRow),o1,o2,o3,sl],.str s] ⟨H,rw⟩ (.ret v) ⟨H,rw'⟩:=by
 have hm:=L.hm
 suffices h : Wp pr F 64 [.ref [.list z tg (cs.map clsRow),.map mb,.list zb tb (U.map upRow),o1,o2,o3,sl],.str s] ⟨H,rw⟩ fun r S' => ∃ (v : AV) (rw' : List Nat),IsL 1 v (ixRows (roadsF cs U s)) ∧ Rx rw rw' ∧ r = .ret v ∧ S' = ⟨H,rw'⟩ by
  obtain ⟨r,S',hd,v,rw',h1,h2,rfl,rfl⟩:=h.det hm
  exact ⟨v,rw',h1,h2,hd⟩
 have hlt : n < H.length:=(List.getElem?_eq_some_iff.1 T.at_).1
 have hne : n ≠ mb:=by
  intro h
  have:=T.at_
  rw [h,T.mp] at this
  simp at this
 have hFm:=froz_n hne T.mp
 have hfew:=T.few
 have hlm : (cs.map clsRow).length = cs.length:=List.length_map _
 have hul:=T.ulen
 have hul2 : (U.map upRow).length = cs.length:=by rw [List.length_map]; exact hul
 have hzz : cs ≠ [] → z = 9:=T.sz
 have hzb : U ≠ [] → zb = 1:=T.zbs
 have hR : Rx rw rw:=Rx.rfl
 refine at_start_hp hm L.f64.1 L.f64.2 rfl (hp_of T.at_) ?_
 by_cases hcs : cs = []
 ·subst hcs
  refine' stH
  ·simp [place] at hkq
  ·exact fin_ret rfl rfl (hp_take hlt) ⟨_,rw,by rw [roadsF,hkq]; exact IsL.nil,hR,rfl,st_of T.at_⟩
 ·have hz:=hzz hcs
  have hb:=hzb (by intro h; rw [h] at hul; simp only [List.length_nil] at hul; exact hcs (List.length_eq_zero_iff.1 hul.symm))
  subst hz hb
  refine' stH
  ·obtain ⟨uk,huk⟩ : ∃ uk,U[kq]? = some uk:=⟨_,List.getElem?_eq_getElem (by omega)⟩
   have hur:=upRow_get huk
   have hrf : roadsF cs U s = kq :: uk:=by
    unfold roadsF
    rw [hkq]
    simp only [hkc,hq,if_true]
    rw [List.getD_eq_getElem?_getD,huk]
    rfl
   have hlu : (ixRows uk).length = uk.length:=ixRows_len uk
   obtain ⟨bs,hbsl,hbsu,hui2⟩:=T.ups kq uk huk
   have hun2 : uk.length ≤ cs.length:=by rw [hui2]; exact trues_len _ _
   refine' stH
   refine id_append ?_
   refine g_append rfl rfl rfl ?_
   refine ap_todo (rows:=[ixRow kq]) (rowsb:=ixRows uk) (rw0:=rw) (Todo.of_lst (Lst.lit (by simp))) hR isL_lst (by simp only [List.length_cons,List.length_nil,maxRow]; omega) ?_
   intro v3 rw3 hv3 hR3
   refine zrk6 ?_
   refine' stH
   obtain ⟨sz,tag,rfl,h2,-⟩:=hv3.h
   refine fin_ret rfl rfl (hp_take hlt) ⟨_,rw3,?_,hR3,rfl,st_of T.at_⟩
   rw [hrf]
   exact ⟨sz,tag,rfl,h2,fun h => by simp [ixRows] at h⟩
  ·obtain ⟨v,rw2,hv,hR2,hd⟩:=detr_chain L (T.keep (keep_n T.at_ [])) s (rw:=rw)
   refine g_call rfl rfl rfl ?_
   refine c_det hd ?_
   refine zrk6 ?_
   refine' stH
   refine fin_ret rfl (hv.isL.below _) (hp_take hlt) ⟨v,rw2,?_,hR2,rfl,st_of T.at_⟩
   have hrf : roadsF cs U s = chainF cs s:=by
    unfold roadsF
    rw [hkq]
    simp only [hkc,hq,Bool.false_eq_true,if_false]
   rw [hrf]
   exact hv.isL
  ·exact fin_ret rfl rfl (hp_take hlt) ⟨_,rw,by rw [roadsF,hkq]; exact IsL.nil,hR,rfl,st_of T.at_⟩
end Go.Proofs.YtmeakjgbjldkdaaGreat.Ai
namespace Go.Proofs.YtmeakjgbjldkdaaGreat.Ai
open Go
set_option maxRecDepth 100000
set_option maxHeartbeats 16000000
def F37a : {l : List IC // Tr.fn Tr.TT Tryz.f37 0 [[0,1],[0,1,5],[0,5,13,14,15],[0,5,13,14,15,16],[0,5,7,13,14,15],[0,5,7,13,14,15,26,27,28],[0,5,7,13,14,15,26,27,28,29],[0,5,7,9,13,14,15,26,27,28],[0,5,7,9,10,13,14,15,26,27,28],[0,5,7,9,10,13,14,15,26,27,28,40],[0,5,7,13,14,15,26,27,28],[0,5,7,13,14,15,26,27,28],[0,5,13,14,15],[5],[4]] = l}:=⟨_,by cbv⟩
def r37_0 : IC:=Tr.pk F37a.1 0
def r37_1 : IC:=Tr.pk F37a.1 1
def r37_2 : IC:=Tr.pk F37a.1 2
def r37_3 : IC:=Tr.pk F37a.1 3
def r37_4 : IC:=Tr.pk F37a.1 4
def r37_5 : IC:=Tr.pk F37a.1 5
def r37_6 : IC:=Tr.pk F37a.1 6
def r37_7 : IC:=Tr.pk F37a.1 7
def r37_8 : IC:=Tr.pk F37a.1 8
def r37_9 : IC:=Tr.pk F37a.1 9
def r37_10 : IC:=Tr.pk F37a.1 10
def r37_11 : IC:=Tr.pk F37a.1 11
def r37_12 : IC:=Tr.pk F37a.1 12
def F38a : {l : List IC // Tr.fn Tr.TT Tryz.f38 0 [[0,1,2],[0,1,2,8],[0,1,2,8,18],[6,7],[0,2,8,9],[0,2,8,9,26],[0,2,8,10],[0,2,9,10],[0,2,9,10,11],[0,2,9,10,11,35],[0,2,9,10,11,41],[0,2,9,10,11],[0,2,9,10,11],[0,2,9,12],[0,2,9,12,49],[0,2,9,12,13],[0,2,9,12,13,62],[6,7],[0,2,9,12],[6,7]] = l}:=⟨_,by cbv⟩
def r38_0 : IC:=Tr.pk F38a.1 0
def r38_1 : IC:=Tr.pk F38a.1 1
def r38_2 : IC:=Tr.pk F38a.1 2
def r38_3 : IC:=Tr.pk F38a.1 3
def r38_4 : IC:=Tr.pk F38a.1 4
def r38_5 : IC:=Tr.pk F38a.1 5
def r38_6 : IC:=Tr.pk F38a.1 6
def r38_7 : IC:=Tr.pk F38a.1 7
def r38_8 : IC:=Tr.pk F38a.1 8
def r38_9 : IC:=Tr.pk F38a.1 9
def r38_10 : IC:=Tr.pk F38a.1 10
def r38_11 : IC:=Tr.pk F38a.1 11
def r38_12 : IC:=Tr.pk F38a.1 12
def r38_13 : IC:=Tr.pk F38a.1 13
def r38_14 : IC:=Tr.pk F38a.1 14
def r38_15 : IC:=Tr.pk F38a.1 15
def r38_16 : IC:=Tr.pk F38a.1 16
def r38_17 : IC:=Tr.pk F38a.1 17
def r38_18 : IC:=Tr.pk F38a.1 18
def r38_19 : IC:=Tr.pk F38a.1 19
noncomputable def i38 : IFn:=⟨3,(.seq r38_0 (.seq r38_1 (.seq (.seq r38_2 (.cond (.tmp 18) (.seq r38_3 .ret) (.skip))) (.seq r38_4 (.seq (.seq r38_5 (.cond (.tmp 26) (.seq r38_6 (.seq r38_7 (.seq r38_8 (.block 0 (.loop [0,2,9,10,11] (.seq (.seq r38_9 (.cond (.tmp 35) (.skip) (.exit 0))) (.seq (.block 1 (.seq r38_10 (.cond (.tmp 41) r38_11 (.skip)))) r38_12))))))) (.skip))) (.seq (.seq r38_13 (.block 2 (.loop [0,2,9,12] (.seq (.seq r38_14 (.cond (.tmp 49) (.skip) (.exit 2))) (.seq (.block 3 (.seq r38_15 (.seq r38_16 (.cond (.tmp 62) (.seq r38_17 .ret) (.skip))))) r38_18))))) (.seq r38_19 .ret))))))),[.tmp 6,.tmp 7]⟩
theorem c38 : chkFn Tryz.prog Tryz.f38 i38 = true:=by kernel_rfl
def F39a : {l : List IC // Tr.fn Tr.TT Tryz.f39 0 [[0,1,2],[0,1,2,7],[2,7,12,13,14],[2,7,12,13,14,15],[2,7,9,12,13,14],[2,7,9,12,13,14,22],[2,7,12,13,14],[2,7,12,13,14],[6]] = l}:=⟨_,by cbv⟩
def r39_0 : IC:=Tr.pk F39a.1 0
def r39_1 : IC:=Tr.pk F39a.1 1
def r39_2 : IC:=Tr.pk F39a.1 2
def r39_3 : IC:=Tr.pk F39a.1 3
def r39_4 : IC:=Tr.pk F39a.1 4
def r39_5 : IC:=Tr.pk F39a.1 5
def r39_6 : IC:=Tr.pk F39a.1 6
def r39_7 : IC:=Tr.pk F39a.1 7
def r39_8 : IC:=Tr.pk F39a.1 8
noncomputable def i39 : IFn:=⟨3,(.seq r39_0 (.seq r39_1 (.seq (.seq r39_2 (.block 0 (.loop [2,7,12,13,14] (.seq r39_3 (.seq (.cond (.tmp 15) (.skip) (.exit 0)) (.seq (.block 1 (.seq r39_4 (.seq r39_5 (.cond (.tmp 22) r39_6 (.skip))))) r39_7)))))) (.seq r39_8 .ret)))),[.tmp 6]⟩
theorem c39 : chkFn Tryz.prog Tryz.f39 i39 = true:=by kernel_rfl
def F70a : {l : List IC // Tr.fn Tr.TT Tryz.f70 0 [[0,1],[4]] = l}:=⟨_,by cbv⟩
def r70_0 : IC:=Tr.pk F70a.1 0
def r70_1 : IC:=Tr.pk F70a.1 1
noncomputable def i70 : IFn:=⟨2,(.seq r70_0 (.seq r70_1 .ret)),[.tmp 4]⟩
theorem c70 : chkFn Tryz.prog Tryz.f70 i70 = true:=by kernel_rfl
def F71a : {l : List IC // Tr.fn Tr.TT Tryz.f71 0 [[1,2],[3]] = l}:=⟨_,by cbv⟩
def r71_0 : IC:=Tr.pk F71a.1 0
def r71_1 : IC:=Tr.pk F71a.1 1
noncomputable def i71 : IFn:=⟨2,(.seq r71_0 (.seq r71_1 .ret)),[.tmp 3]⟩
theorem c71 : chkFn Tryz.prog Tryz.f71 i71 = true:=by kernel_rfl
def F75a : {l : List IC // Tr.fn Tr.TT Tryz.f75 0 [[1,2],[1,2,5],[1,2,5,10],[1,2,5,27],[4],[1,2,5],[4]] = l}:=⟨_,by cbv⟩
def r75_0 : IC:=Tr.pk F75a.1 0
def r75_1 : IC:=Tr.pk F75a.1 1
def r75_2 : IC:=Tr.pk F75a.1 2
def r75_3 : IC:=Tr.pk F75a.1 3
def r75_4 : IC:=Tr.pk F75a.1 4
def r75_5 : IC:=Tr.pk F75a.1 5
def r75_6 : IC:=Tr.pk F75a.1 6
noncomputable def i75 : IFn:=⟨2,(.seq r75_0 (.seq (.seq r75_1 (.block 0 (.loop [1,2,5] (.seq (.seq r75_2 (.cond (.tmp 10) (.skip) (.exit 0))) (.seq (.block 1 (.seq r75_3 (.cond (.tmp 27) (.seq r75_4 .ret) (.skip)))) r75_5))))) (.seq r75_6 .ret))),[.tmp 4]⟩
theorem c75 : chkFn Tryz.prog Tryz.f75 i75 = true:=by kernel_rfl
def F112a : {l : List IC // Tr.fn Tr.TT Tryz.f112 0 [[0,1],[0,1,7,8],[0,1,7,8,9],[0,1,5,7,8],[0,1,5,7,8,16],[4],[0,1,7,8],[4]] = l}:=⟨_,by cbv⟩
def r112_0 : IC:=Tr.pk F112a.1 0
def r112_1 : IC:=Tr.pk F112a.1 1
def r112_2 : IC:=Tr.pk F112a.1 2
def r112_3 : IC:=Tr.pk F112a.1 3
def r112_4 : IC:=Tr.pk F112a.1 4
def r112_5 : IC:=Tr.pk F112a.1 5
def r112_6 : IC:=Tr.pk F112a.1 6
def r112_7 : IC:=Tr.pk F112a.1 7
noncomputable def i112 : IFn:=⟨2,(.seq r112_0 (.seq (.seq r112_1 (.block 0 (.loop [0,1,7,8] (.seq r112_2 (.seq (.cond (.tmp 9) (.skip) (.exit 0)) (.seq (.block 1 (.seq r112_3 (.seq r112_4 (.cond (.tmp 16) (.seq r112_5 .ret) (.skip))))) r112_6)))))) (.seq r112_7 .ret))),[.tmp 4]⟩
theorem c112 : chkFn Tryz.prog Tryz.f112 i112 = true:=by kernel_rfl
def F7a : {l : List IC // Tr.fn Tr.TT Tryz.f7 0 [[0,1],[0,1,21],[4],[1,5,6],[1,5,6,28],[4],[1,5,6,7],[1,5,6,7,8],[1,5,6,7,8,34],[1,5,6,7,8,9],[1,5,6,7,8,9,10],[1,5,6,7,8,9,10,11],[1,5,6,7,8,9,10,11,47],[1,5,6,7,8,9,10,11,12,13],[1,5,6,7,8,9,10,11,12,13,14,15],[1,5,6,7,8,9,10,11,12,13,14,15,81],[4],[1,5,6,7,8,9,10,11,12,13,14,83],[1,5,6,7,8,9,10,11,14,115],[4],[1,5,6,7,8,9,10,11,153],[4]] = l}:=⟨_,by cbv⟩
def r7_0 : IC:=Tr.pk F7a.1 0
def r7_1 : IC:=Tr.pk F7a.1 1
def r7_2 : IC:=Tr.pk F7a.1 2
def r7_3 : IC:=Tr.pk F7a.1 3
def r7_4 : IC:=Tr.pk F7a.1 4
def r7_5 : IC:=Tr.pk F7a.1 5
def r7_6 : IC:=Tr.pk F7a.1 6
def r7_7 : IC:=Tr.pk F7a.1 7
def r7_8 : IC:=Tr.pk F7a.1 8
def r7_9 : IC:=Tr.pk F7a.1 9
def r7_10 : IC:=Tr.pk F7a.1 10
def r7_11 : IC:=Tr.pk F7a.1 11
def r7_12 : IC:=Tr.pk F7a.1 12
def r7_13 : IC:=Tr.pk F7a.1 13
def r7_14 : IC:=Tr.pk F7a.1 14
def r7_15 : IC:=Tr.pk F7a.1 15
def r7_16 : IC:=Tr.pk F7a.1 16
def r7_17 : IC:=Tr.pk F7a.1 17
def r7_18 : IC:=Tr.pk F7a.1 18
def r7_19 : IC:=Tr.pk F7a.1 19
def r7_20 : IC:=Tr.pk F7a.1 20
def r7_21 : IC:=Tr.pk F7a.1 21
def F7b : {l : List IC // Tr.fn Tr.TT Tryz.f7 22 [[1,5,6,7,8,9,10,11],[1,5,6,7,8,9,10,11],[1,5,6,7,8,9,10,17],[1,5,6,7,8,9,10,17,18],[1,5,6,7,8,187],[4],[1,5,6,7,8],[4]] = l}:=⟨_,by cbv⟩
def r7_22 : IC:=Tr.pk F7b.1 0
def r7_23 : IC:=Tr.pk F7b.1 1
def r7_24 : IC:=Tr.pk F7b.1 2
def r7_25 : IC:=Tr.pk F7b.1 3
def r7_26 : IC:=Tr.pk F7b.1 4
def r7_27 : IC:=Tr.pk F7b.1 5
def r7_28 : IC:=Tr.pk F7b.1 6
def r7_29 : IC:=Tr.pk F7b.1 7
noncomputable def i7 : IFn:=⟨2,(.seq r7_0 (.seq (.seq r7_1 (.cond (.tmp 21) (.seq r7_2 .ret) (.skip))) (.seq r7_3 (.seq (.seq r7_4 (.cond (.tmp 28) (.seq r7_5 .ret) (.skip))) (.seq r7_6 (.seq (.seq r7_7 (.block 0 (.loop [1,5,6,7,8] (.seq (.seq r7_8 (.cond (.tmp 34) (.skip) (.exit 0))) (.seq (.block 1 (.seq r7_9 (.seq r7_10 (.seq (.seq r7_11 (.block 2 (.loop [1,5,6,7,8,9,10,11] (.seq (.seq r7_12 (.cond (.tmp 47) (.skip) (.exit 2))) (.seq (.block 3 (.seq r7_13 (.seq r7_14 (.seq (.seq r7_15 (.cond (.tmp 81) (.seq r7_16 .ret) (.skip))) (.seq (.seq r7_17 (.cond (.tmp 83) (.exit 3) (.skip))) (.seq (.seq r7_18 (.cond (.tmp 115) (.seq r7_19 .ret) (.skip))) (.seq (.seq r7_20 (.cond (.tmp 153) (.seq r7_21 .ret) (.skip))) r7_22))))))) r7_23))))) (.seq r7_24 (.seq r7_25 (.seq r7_26 (.cond (.tmp 187) (.seq r7_27 .ret) (.skip))))))))) r7_28))))) (.seq r7_29 .ret))))))),[.tmp 4]⟩
theorem c7 : chkFn Tryz.prog Tryz.f7 i7 = true:=by kernel_rfl
def F8a : {l : List IC // Tr.fn Tr.TT Tryz.f8 0 [[0,1],[0,1,19],[4],[1,5,6],[1,5,6,26],[4],[1,5,6,7],[1,5,6,7,30],[1,5,6,7,8],[1,5,6,7,8,9],[1,5,6,7,8,9,43],[1,5,6,7,8,9,10],[1,5,6,7,8,9,10,11],[1,5,6,7,8,9,10,11,55],[1,5,6,7,8,9,10,11,12,13],[1,5,6,7,8,9,10,11,88],[4],[1,5,6,7,8,9,10,11],[1,5,6,7,8,9],[1,5,6,7,14],[1,5,6,7,14,15,16],[1,5,6,7,14,15,16,17],[1,5,6,7,14,15,16,17,107],[1,5,6,7,14,15,16,17,117],[1,5,6,7,14,15,16,17,134],[4],[1,5,6,7,14,15,16,17],[1,5,6,7,14,15,16,17],[1,5,6,7,140],[4],[1,5,6,7],[4]] = l}:=⟨_,by cbv⟩
def r8_0 : IC:=Tr.pk F8a.1 0
def r8_1 : IC:=Tr.pk F8a.1 1
def r8_2 : IC:=Tr.pk F8a.1 2
def r8_3 : IC:=Tr.pk F8a.1 3
def r8_4 : IC:=Tr.pk F8a.1 4
def r8_5 : IC:=Tr.pk F8a.1 5
def r8_6 : IC:=Tr.pk F8a.1 6
def r8_7 : IC:=Tr.pk F8a.1 7
def r8_8 : IC:=Tr.pk F8a.1 8
def r8_9 : IC:=Tr.pk F8a.1 9
def r8_10 : IC:=Tr.pk F8a.1 10
def r8_11 : IC:=Tr.pk F8a.1 11
def r8_12 : IC:=Tr.pk F8a.1 12
def r8_13 : IC:=Tr.pk F8a.1 13
def r8_14 : IC:=Tr.pk F8a.1 14
def r8_15 : IC:=Tr.pk F8a.1 15
def r8_16 : IC:=Tr.pk F8a.1 16
def r8_17 : IC:=Tr.pk F8a.1 17
def r8_18 : IC:=Tr.pk F8a.1 18
def r8_19 : IC:=Tr.pk F8a.1 19
def r8_20 : IC:=Tr.pk F8a.1 20
def r8_21 : IC:=Tr.pk F8a.1 21
def r8_22 : IC:=Tr.pk F8a.1 22
def r8_23 : IC:=Tr.pk F8a.1 23
def r8_24 : IC:=Tr.pk F8a.1 24
def r8_25 : IC:=Tr.pk F8a.1 25
def r8_26 : IC:=Tr.pk F8a.1 26
def r8_27 : IC:=Tr.pk F8a.1 27
def r8_28 : IC:=Tr.pk F8a.1 28
def r8_29 : IC:=Tr.pk F8a.1 29
def r8_30 : IC:=Tr.pk F8a.1 30
def r8_31 : IC:=Tr.pk F8a.1 31
noncomputable def i8 : IFn:=⟨2,(.seq r8_0 (.seq (.seq r8_1 (.cond (.tmp 19) (.seq r8_2 .ret) (.skip))) (.seq r8_3 (.seq (.seq r8_4 (.cond (.tmp 26) (.seq r8_5 .ret) (.skip))) (.seq (.seq r8_6 (.block 0 (.loop [1,5,6,7] (.seq (.seq r8_7 (.cond (.tmp 30) (.skip) (.exit 0))) (.seq (.block 1 (.seq r8_8 (.seq (.seq r8_9 (.block 2 (.loop [1,5,6,7,8,9] (.seq (.seq r8_10 (.cond (.tmp 43) (.skip) (.exit 2))) (.seq (.block 3 (.seq r8_11 (.seq r8_12 (.block 4 (.loop [1,5,6,7,8,9,10,11] (.seq (.seq r8_13 (.cond (.tmp 55) (.skip) (.exit 4))) (.seq (.block 5 (.seq r8_14 (.seq r8_15 (.cond (.tmp 88) (.seq r8_16 .ret) (.skip))))) r8_17))))))) r8_18))))) (.seq r8_19 (.seq r8_20 (.seq (.seq r8_21 (.block 6 (.loop [1,5,6,7,14,15,16,17] (.seq (.seq r8_22 (.cond (.tmp 107) (.skip) (.exit 6))) (.seq (.block 7 (.seq r8_23 (.cond (.tmp 117) (.seq (.seq r8_24 (.cond (.tmp 134) (.seq r8_25 .ret) (.skip))) r8_26) (.skip)))) r8_27))))) (.seq r8_28 (.cond (.tmp 140) (.seq r8_29 .ret) (.skip))))))))) r8_30))))) (.seq r8_31 .ret)))))),[.tmp 4]⟩
theorem c8 : chkFn Tryz.prog Tryz.f8 i8 = true:=by kernel_rfl
end Go.Proofs.YtmeakjgbjldkdaaGreat.Ai
namespace Go.Proofs.YtmeakjgbjldkdaaGreat.Ai
open Go
variable {pr : Prims} {F : Nat → Option IFn}
structure LibM (pr : Prims) (F : Nat → Option IFn) : Prop extends LibG pr F where
 f38 : Has pr F 38 i38
 f39 : Has pr F 39 i39
 f70 : Has pr F 70 i70
 f71 : Has pr F 71 i71
 f75 : Has pr F 75 i75
 f112 : Has pr F 112 i112
theorem det_same (L : LibM pr F) {H : List Blk} {rw : List Nat} {x : Nat} {sig : Str} (hx : H[x]? = some (.cells [.str sig])) (s o : Str) (m : Mth) :
  Det pr F 71 [.agg (memRow s o m),.ptr x 0] ⟨H,rw⟩ (.ret (.bool (s == sig))) ⟨H,rw⟩:=by
 have hm:=L.hm
 suffices h : Wp pr F 71 [.agg (memRow s o m),.ptr x 0] ⟨H,rw⟩ fun r S' => r = .ret (.bool (s == sig)) ∧ S' = ⟨H,rw⟩ by
  obtain ⟨r,S',hd,rfl,rfl⟩:=h.det hm
  exact hd
 refine at_start hm L.f71.1 L.f71.2 rfl ?_
 refine at_seq hm ?_
 unfold r71_0
 show At pr F H.length (fin _ H.length _) _ _ _ _
 refine at_box hm rfl ?_
 intro H1 hH1 hlen hlt
 have hF:=froz_first hH1 hx
 obtain ⟨mn,mp,⟨k1,t1,u1,e1,p1,a1⟩,bd,ab,at1⟩:=m
 refine' stH
 ·subst hH1
  exact fin_ret rfl rfl take_own ⟨by rw [hq]; simp,rfl⟩
 ·subst hH1
  exact fin_ret rfl rfl take_own ⟨by rw [beq_eq_false_iff_ne.2 hq],rfl⟩
def memRows (l : List (Str × Str × Mth)) : List (List AV):=l.map fun x => memRow x.1 x.2.1 x.2.2
def idxM (sig : Str) : Nat → List (Str × Str × Mth) → Int
 | _,[] => -1
 | p,x :: l => if x.1 = sig then (p : Int) else idxM sig (p + 1) l
theorem idxM_drop {sig : Str} {l : List (Str × Str × Mth)} {q : Nat} {x : Str × Str × Mth} (h : l[q]? = some x) : idxM sig q (l.drop q) = if x.1 = sig then (q : Int) else idxM sig (q + 1) (l.drop (q + 1)):=by
 obtain ⟨hl,he⟩:=List.getElem?_eq_some_iff.1 h
 rw [List.drop_eq_getElem_cons hl,he]
 rfl
theorem idxM_mem {sig : Str} : ∀ {l : List (Str × Str × Mth)} {p : Nat},0 ≤ idxM sig p l ↔ ∃ x ∈ l,x.1 = sig
 | [],p => by simp [idxM]
 | x :: l,p => by
  unfold idxM
  split
  ·rename_i h
   simp [h]
  ·rename_i h
   rw [idxM_mem]
   simp [h]
theorem memRows_len (l : List (Str × Str × Mth)) : (memRows l).length = l.length:=List.length_map _
theorem memRows_get {l : List (Str × Str × Mth)} {q : Nat} {x : Str × Str × Mth} (h : l[q]? = some x) : (memRows l)[q]? = some (memRow x.1 x.2.1 x.2.2):=by
 unfold memRows
 rw [List.getElem?_map,h]
 rfl
theorem det_indexM (L : LibM pr F) {H : List Blk} {rw : List Nat} {x : Nat} {sig : Str} (hx : H[x]? = some (.cells [.str sig])) {v : AV} {l : List (Str × Str × Mth)} (hv : IsL 13 v (memRows l)) (hl : l.length ≤ 1000000) :
  Det pr F 112 [v,.func 71 [] [.ptr x 0]] ⟨H,rw⟩ (.ret (.int .i64 (idxM sig 0 l))) ⟨H,rw⟩:=by
 have hm:=L.hm
 obtain ⟨z,tg,rfl,hz,-⟩:=hv
 have hll:=memRows_len l
 suffices h : Wp pr F 112 [.list z tg (memRows l),.func 71 [] [.ptr x 0]] ⟨H,rw⟩ fun r S' => r = .ret (.int .i64 (idxM sig 0 l)) ∧ S' = ⟨H,rw⟩ by
  obtain ⟨r,S',hd,rfl,rfl⟩:=h.det hm
  exact hd
 have hxl : x < H.length:=(List.getElem?_eq_some_iff.1 hx).1
 refine at_start_hp hm L.f112.1 L.f112.2 rfl (hp_of hx) ?_
 refine' stH
 refine at_loop hm (fun mm e S' => ∃ q : Nat,S' = ⟨hp H x (.cells [.str sig]) [],rw⟩ ∧ q ≤ l.length ∧ idxM sig 0 l = idxM sig q (l.drop q) ∧ mm = l.length - q ∧ e = [(0,.list z tg (memRows l)),(1,.func 71 [] [.ptr x 0]),(7,.int .i64 ((memRows l).length : Int)),(8,.int .i64 q)]) ?_ (m:=l.length) ⟨0,rfl,by omega,rfl,rfl,rfl⟩
 rintro mm e S' ⟨q,rfl,hq0,hne,rfl,rfl⟩
 by_cases hq1 : q < l.length
 ·obtain ⟨y,hy⟩ : ∃ y,l[q]? = some y:=⟨_,List.getElem?_eq_getElem hq1⟩
  have hyr:=memRows_get hy
  have htk : ∀ (a b : Str) (m : Mth),(memRow a b m).take 13 = memRow a b m:=fun a b m => List.take_of_length_le (Nat.le_of_eq (row_mem a b m).len)
  have hz1 : z = 13:=hz (by intro h; rw [h] at hll; simp only [List.length_nil] at hll; omega)
  subst hz1
  rw [idxM_drop hy] at hne
  obtain ⟨ys,yo,mn,mp,⟨k1,t1,u1,e1,p1,a1⟩,bd,ab,at1⟩:=y
  refine' stH
  have hd:=det_same L (H:=hp H x (.cells [.str sig]) []) (rw:=rw) (hp_get hxl) ys yo ⟨mn,mp,.mk k1 t1 u1 e1 p1 a1,bd,ab,at1⟩
  refine g_callC rfl rfl rfl (by rw [htk]) ?_
  refine c_det hd ?_
  refine zrk6 ?_
  clear hd
  simp only at hne
  by_cases he : ys = sig
  ·rw [if_pos he] at hne
   rw [he,beq_self_eq_true]
   refine' stH
   exact fin_ret rfl rfl (hp_take hxl) ⟨by rw [hne],st_of hx⟩
  ·rw [if_neg he] at hne
   rw [beq_eq_false_iff_ne.2 he]
   refine' stH
   exact ⟨l.length - (q + 1),by omega,q + 1,rfl,by omega,hne,rfl,rfl⟩
 ·refine' stH
  rw [List.drop_eq_nil_of_le (by omega)] at hne
  exact fin_ret rfl rfl (hp_take hxl) ⟨by rw [hne]; rfl,st_of hx⟩
theorem det_containsM (L : LibM pr F) {H : List Blk} {rw : List Nat} {x : Nat} {sig : Str} (hx : H[x]? = some (.cells [.str sig])) {v : AV} {l : List (Str × Str × Mth)} (hv : IsL 13 v (memRows l)) (hl : l.length ≤ 1000000) :
  Det pr F 70 [v,.func 71 [] [.ptr x 0]] ⟨H,rw⟩ (.ret (.bool (decide (0 ≤ idxM sig 0 l)))) ⟨H,rw⟩:=by
 have hm:=L.hm
 have hd:=det_indexM L (rw:=rw) hx hv hl
 obtain ⟨z,tg,rfl,hz,-⟩:=hv
 suffices h : Wp pr F 70 [.list z tg (memRows l),.func 71 [] [.ptr x 0]] ⟨H,rw⟩ fun r S' => r = .ret (.bool (decide (0 ≤ idxM sig 0 l))) ∧ S' = ⟨H,rw⟩ by
  obtain ⟨r,S',hd,rfl,rfl⟩:=h.det hm
  exact hd
 have hxl : x < H.length:=(List.getElem?_eq_some_iff.1 hx).1
 have hH : hp H x (.cells [.str sig]) [] = H:=(hp_of hx).symm
 refine at_start_hp hm L.f70.1 L.f70.2 rfl (hp_of hx) ?_
 refine' stH
 refine g_call rfl rfl rfl ?_
 have hd2 : Det pr F 112 [AV.list z tg (memRows l),AV.func 71 [] [AV.ptr x 0]] ⟨hp H x (.cells [.str sig]) [],rw⟩ (Res.ret (AV.int IntKind.i64 (idxM sig 0 l))) ⟨hp H x (.cells [.str sig]) [],rw⟩:=by
  rw [hH]
  exact hd
 refine c_det hd2 ?_
 clear hd hd2 hH
 refine zrk6 ?_
 refine' stH
 ·exact fin_ret rfl rfl (hp_take hxl) ⟨by rw [decide_eq_true hq],st_of hx⟩
 ·exact fin_ret rfl rfl (hp_take hxl) ⟨by rw [decide_eq_false (by omega)],st_of hx⟩
end Go.Proofs.YtmeakjgbjldkdaaGreat.Ai
namespace Go.Proofs.YtmeakjgbjldkdaaGreat.Ai
open Go
variable {pr : Prims} {F : Nat → Option IFn}
def addM (owner : Str) (out : List (Str × Str × Mth)) (m : Mth) : List (Str × Str × Mth):=
 if 0 ≤ idxM (sigT m.name m.params) 0 out then out else out ++ [(sigT m.name m.params,owner,m)]
def addC (cs : List Cls) (out : List (Str × Str × Mth)) (i : Nat) : List (Str × Str × Mth):=match cs[i]? with
 | some c => c.meths.foldl (addM c.name) out
 | none => out
def methF (cs : List Cls) (U : List (List Nat)) (s : Str) : List (Str × Str × Mth):=(roadsF cs U s).foldl (addC cs) []
theorem addM_len (owner : Str) (out : List (Str × Str × Mth)) (m : Mth) : (addM owner out m).length ≤ out.length + 1:=by
 unfold addM
 split
 ·omega
 ·simp
theorem memRows_snoc (out : List (Str × Str × Mth)) (a b : Str) (m : Mth) : memRows (out ++ [(a,b,m)]) = memRows out ++ [memRow a b m]:=by
 simp [memRows]
theorem addF_len (owner : Str) : ∀ (l : List Mth) (out : List (Str × Str × Mth)),(l.foldl (addM owner) out).length ≤ out.length + l.length
 | [],out => by simp
 | m :: l,out => by
  have h1:=addF_len owner l (addM owner out m)
  have h2:=addM_len owner out m
  simp only [List.foldl_cons,List.length_cons]
  omega
theorem addC_len {cs : List Cls} (hfw : Few cs) (out : List (Str × Str × Mth)) (i : Nat) : (addC cs out i).length ≤ out.length + 64:=by
 unfold addC
 split
 ·rename_i c hc
  have h1:=addF_len c.name c.meths out
  have h2:=(hfw i c hc).2.2.1
  omega
 ·omega
theorem addR_len {cs : List Cls} (hfw : Few cs) : ∀ (l : List Nat) (out : List (Str × Str × Mth)),(l.foldl (addC cs) out).length ≤ out.length + 64 * l.length
 | [],out => by simp
 | i :: l,out => by
  have h1:=addR_len hfw l (addC cs out i)
  have h2:=addC_len hfw out i
  simp only [List.foldl_cons,List.length_cons]
  omega
noncomputable def pre37 : IC:=.seq r37_0 (.seq r37_1 (.seq r37_2 (.block 0 (.loop [0,5,13,14,15] (.seq r37_3 (.seq (.cond (.tmp 16) (.skip) (.exit 0)) (.seq (.block 1 (.seq r37_4 (.seq r37_5 (.block 2 (.loop [0,5,7,13,14,15,26,27,28] (.seq r37_6 (.seq (.cond (.tmp 29) (.skip) (.exit 2)) (.seq (.block 3 (.seq r37_7 (.seq r37_8 (.seq r37_9 (.cond (.tmp 40) r37_10 (.skip)))))) r37_11)))))))) r37_12)))))))
theorem ap_grow {K : AV → St → Prop} {rw0 rw : List Nat} {sz by_ : Nat} {v : AV} {rows : List (List AV)} {row : List AV} {H : List Blk} (h : Grow rw0 sz v rows rw) (hx : Rx rw0 rw) (hb : (rows.length + 1) * by_ ≤ maxRow) (hl : rows.length + 1 ≤ maxRow) (hs : 0 < sz)
  (hk : ∀ v' rw',Grow rw0 sz v' (rows ++ [row]) rw' → Rx rw0 rw' → K v' ⟨H,rw'⟩) : ApAt sz by_ v (.list sz .full [row]) ⟨H,rw⟩ K:=by
 obtain ⟨v',rw',h1,h2,h3⟩:=h.push (H:=H) (row:=row) hx hb hl hs
 exact ⟨_,_,h1,hk v' rw' h2 h3⟩
def tabR (cs : List Cls) (U : List (List Nat)) (z zb mb : Nat) (tg tb : Tag) (o1 o2 o3 sl : AV) : List AV:=[.list z tg (cs.map clsRow),.map mb,.list zb tb (U.map upRow),o1,o2,o3,sl]
theorem wx_keepQ {pr : Prims} {F : Nat → Option IFn} {b0 : Nat} {c : IC} {e : Env} {S S' : St} {Q Q' : Ex → Env → St → Prop} (h : At pr F b0 Q c [] e S') (hS : S' = S) (hQ : ∀ x e S,Q x e S → Q' x e S) : Wx pr F b0 c e S Q':=by
 subst hS
 exact Wx.mono h.h hQ
def PreQ (rw : List Nat) (rows : List (List AV)) (H : List Blk) (n : Nat) (b : Blk) (x : Ex) (e : Env) (S' : St) : Prop:=x = .normal ∧ ∃ (v : AV) (rw' : List Nat) (M : List Blk),eget e 5 = some v ∧ Grow rw 13 v rows rw' ∧ Rx rw rw' ∧ S' = ⟨hp H n b M,rw'⟩
theorem wx_pre37 (L : LibM pr F) {H : List Blk} {rw : List Nat} {n mb z zb : Nat} {tg tb : Tag} {cs : List Cls} {U : List (List Nat)} {o1 o2 o3 sl : AV} (T : TabU H n mb cs z tg zb tb U o1 o2 o3 sl) (hfw : Few cs) (s : Str) :
  Wx pr F H.length pre37 (args0 [.ref (tabR cs U z zb mb tg tb o1 o2 o3 sl),.str s]) ⟨H,rw⟩ (PreQ rw (memRows (methF cs U s)) H n (.cells (tabR cs U z zb mb tg tb o1 o2 o3 sl))):=by
 have hm:=L.hm
 unfold tabR
 refine wx_keepQ (Q:=PreQ rw (memRows (methF cs U s)) H n (.cells [.list z tg (cs.map clsRow),.map mb,.list zb tb (U.map upRow),o1,o2,o3,sl])) (S':=⟨hp H n (.cells [.list z tg (cs.map clsRow),.map mb,.list zb tb (U.map upRow),o1,o2,o3,sl]) [],rw⟩) ?_ (st_of T.at_) (fun _ _ _ h => h)
 have hlt : n < H.length:=(List.getElem?_eq_some_iff.1 T.at_).1
 have hfew:=T.few
 have hlm : (cs.map clsRow).length = cs.length:=List.length_map _
 have hR : Rx rw rw:=Rx.rfl
 have hT:=fun M => T.keep (keep_n T.at_ M)
 unfold pre37
 refine' stH
 obtain ⟨v,rw2,hv,hR2,hd⟩:=detr_roads L.toLibE (hT []) s (rw:=rw)
 refine g_call rfl rfl rfl ?_
 refine c_det hd ?_
 clear hR
 refine zrk6 ?_
 obtain ⟨zv,tv,rfl,hzv,-⟩:=hv.ex
 clear hd hv
 unfold methF
 have hcl : ∀ i ∈ roadsF cs U s,i < cs.length:=roads_lt T.linked T.ups s
 have hcn : (roadsF cs U s).length ≤ cs.length + 1:=roads_len T.ups s
 generalize roadsF cs U s = l at *
 have hll : (ixRows l).length = l.length:=ixRows_len l
 refine' stH
 refine at_loop hm (fun mm e S' => ∃ (q : Nat) (J : List Blk) (lv : AV) (rw3 : List Nat),S' = ⟨hp H n (.cells [.list z tg (cs.map clsRow),.map mb,.list zb tb (U.map upRow),o1,o2,o3,sl]) J,rw3⟩ ∧ q ≤ l.length ∧ Grow rw 13 lv (memRows ((l.take q).foldl (addC cs) [])) rw3 ∧ Rx rw rw3 ∧ mm = l.length - q ∧
  e = [(0,.ref [.list z tg (cs.map clsRow),.map mb,.list zb tb (U.map upRow),o1,o2,o3,sl]),(5,lv),(13,.list zv tv (ixRows l)),(14,.int .i64 ((ixRows l).length : Int)),(15,.int .i64 q)]) ?_ (m:=l.length) ⟨0,[],_,rw2,rfl,by omega,Grow.nil,hR2,rfl,rfl⟩
 rintro mm e S' ⟨q,J,lv,rw3,rfl,hq0,hl,hR,rfl,rfl⟩
 have hbl:=addR_len hfw (l.take q) []
 have htk : (l.take q).length ≤ q:=by rw [List.length_take]; omega
 simp only [List.length_nil,Nat.zero_add] at hbl
 by_cases hq1 : q < l.length
 ·obtain ⟨i,hiq⟩ : ∃ i,l[q]? = some i:=⟨_,List.getElem?_eq_getElem hq1⟩
  have hi:=hcl i (List.mem_of_getElem? hiq)
  have hiq2:=ixRows_get hiq
  have hzv1 : zv = 1:=hzv (by intro h; rw [h] at hll; simp only [List.length_nil] at hll; omega)
  subst hzv1
  obtain ⟨c,hc⟩ : ∃ c,cs[i]? = some c:=⟨_,List.getElem?_eq_getElem hi⟩
  have hcr : (cs.map clsRow)[i]? = some (clsRow c):=by rw [List.getElem?_map,hc]; rfl
  have hz : z = 9:=T.sz (by intro h; rw [h] at hi; simp at hi)
  subst hz
  have hcm:=List.mem_of_getElem? hc
  have hmo:=cls_meths (T.okc c hcm)
  have hbm:=(hfw i c hc).2.2.1
  have hlm2:=mthRow_len c.meths
  refine' stH
  refine at_loop hm (fun mm e S' => ∃ (p : Nat) (J : List Blk) (lv : AV) (rw3 : List Nat),S' = ⟨hp H n (.cells [.list 9 tg (cs.map clsRow),.map mb,.list zb tb (U.map upRow),o1,o2,o3,sl]) J,rw3⟩ ∧ p ≤ c.meths.length ∧ Grow rw 13 lv (memRows ((c.meths.take p).foldl (addM c.name) ((l.take q).foldl (addC cs) []))) rw3 ∧ Rx rw rw3 ∧ mm = c.meths.length - p ∧
   e = [(0,.ref [.list 9 tg (cs.map clsRow),.map mb,.list zb tb (U.map upRow),o1,o2,o3,sl]),(5,lv),(7,.int .i64 i),(13,.list 1 tv (ixRows l)),(14,.int .i64 ((ixRows l).length : Int)),(15,.int .i64 q),(26,lst 11 (c.meths.map mthRow)),(27,.int .i64 ((c.meths.map mthRow).length : Int)),(28,.int .i64 p)]) ?_ (m:=c.meths.length) ⟨0,J,lv,rw3,rfl,by omega,hl,hR,rfl,rfl⟩
  clear hl hR
  clear rw3 lv J
  rintro mm e S' ⟨p,J,lv,rw3,rfl,hp0,hl,hR,rfl,rfl⟩
  have hbl2:=addF_len c.name (c.meths.take p) ((l.take q).foldl (addC cs) [])
  have htk2 : (c.meths.take p).length ≤ p:=by rw [List.length_take]; omega
  by_cases hp1 : p < c.meths.length
  ·obtain ⟨m,hmq⟩ : ∃ m,c.meths[p]? = some m:=⟨_,List.getElem?_eq_getElem hp1⟩
   have hmem:=List.mem_of_getElem? hmq
   have hmr : (c.meths.map mthRow)[p]? = some (mthRow m):=by rw [List.getElem?_map,hmq]; rfl
   obtain ⟨hb1,hb2,hb3,hb4⟩:=mth_bounds hcm hmem T.wt
   obtain ⟨hk1,hk2,hk3,hk4⟩:=hmo m hmem
   have hsg:=tx_sig L.toLibE hb1 hb2 hk2
   have hl5 : lst 11 (c.meths.map mthRow) = .list 11 .dead (c.meths.map mthRow):=lst_of_lt (i:=p) (by omega)
   rw [hl5]
   have hts:=take_snoc hmq
   generalize hout : (c.meths.take p).foldl (addM c.name) ((l.take q).foldl (addC cs) []) = out at *
   refine' stH
   have hx : (hp H n (.cells [.list 9 tg (cs.map clsRow),.map mb,.list zb tb (U.map upRow),o1,o2,o3,sl]) (J ++ [.cells (mthRow m)] ++ [.cells [.str (sigT m.name m.params)]]))[H.length + (J ++ [Blk.cells (mthRow m)]).length]? = some (Blk.cells [.str (sigT m.name m.params)]):=by
    rw [hp_own hlt,List.getElem?_append_right (Nat.le_refl _),Nat.sub_self]
    rfl
   have hl:=hl.ext hRt
   have hd:=det_containsM L (rw:=rwt) hx (Lst.isL (Or.inl hl)) (by omega)
   refine g_call rfl rfl rfl ?_
   refine c_det hd ?_
   clear hd hx
   refine zrk6 ?_
   refine' stH
   ·have hq2 : ¬ (0 ≤ idxM (sigT m.name m.params) 0 out):=by simpa using hq
    obtain ⟨mn,mp,⟨k1,t1,u1,e1,p1,a1⟩,bd,ab,at1⟩:=m
    refine' stH
    refine id_list ?_
    refine g_list rfl (vs:=[.agg (memRow (sigT mn mp) c.name ⟨mn,mp,.mk k1 t1 u1 e1 p1 a1,bd,ab,at1⟩)]) rfl ?_
    refine ls_1 (row_mem _ _ _) ?_
    refine' stH
    refine id_append ?_
    refine g_append rfl rfl rfl ?_
    refine ap_grow (row:=memRow (sigT mn mp) c.name ⟨mn,mp,.mk k1 t1 u1 e1 p1 a1,bd,ab,at1⟩) hl hR (by rw [memRows_len]; simp only [maxRow]; omega) (by rw [memRows_len]; simp only [maxRow]; omega) (by omega) ?_
    intro l4 rw4 hl4 hR4
    refine zrk6 ?_
    refine' stH
    refine ⟨c.meths.length - (p + 1),by omega,p + 1,_,l4,rw4,rfl,by omega,?_,hR4,rfl,by first | rfl | (rw [hl5]; rfl)⟩
    rw [hts,List.foldl_append,hout]
    simp only [List.foldl_cons,List.foldl_nil,addM,if_neg hq2]
    rw [memRows_snoc]
    exact hl4
   ·have hq2 : 0 ≤ idxM (sigT m.name m.params) 0 out:=by simpa using hq
    refine ⟨c.meths.length - (p + 1),by omega,p + 1,_,lv,rwt,rfl,by omega,?_,hR,rfl,by first | rfl | (rw [hl5]; rfl)⟩
    rw [hts,List.foldl_append,hout]
    simp only [List.foldl_cons,List.foldl_nil,addM,if_pos hq2]
    exact hl
  ·refine' stH
   rw [show p = c.meths.length by omega,List.take_length] at hl
   refine ⟨l.length - (q + 1),by omega,q + 1,J,lv,rw3,rfl,by omega,?_,hR,rfl,rfl⟩
   rw [take_snoc hiq,List.foldl_append]
   simp only [List.foldl_cons,List.foldl_nil,addC,hc]
   exact hl
 ·refine' stH
  rw [show q = l.length by omega,List.take_length] at hl
  exact ⟨rfl,lv,rw3,J,rfl,hl,hR,rfl⟩
end Go.Proofs.YtmeakjgbjldkdaaGreat.Ai
namespace Go.Proofs.YtmeakjgbjldkdaaGreat.Ai
open Go
open Classical in
noncomputable def exU (cl : CallFn) (c : IC) (e : Env) (S : St) : Option (Ex × Env × St):=
 if h : ∃ r n,exec S.heap.length cl n c e S = some r then some (Classical.choose h) else none
theorem exU_some {cl : CallFn} {c : IC} {e : Env} {S : St} {r : Ex × Env × St} (h : exU cl c e S = some r) : ∃ n,exec S.heap.length cl n c e S = some r:=by
 unfold exU at h
 split at h
 ·rename_i hx
  simp only [Option.some.injEq] at h
  subst h
  exact Classical.choose_spec hx
 ·simp at h
theorem exU_of {cl cl' : CallFn} (hc : CLe cl cl') {c : IC} {e : Env} {S : St} {n : Nat} {r : Ex × Env × St} (h : exec S.heap.length cl n c e S = some r) : exU cl' c e S = some r:=by
 have h1 : ∃ r n,exec S.heap.length cl' n c e S = some r:=⟨r,n,exec_mono hc (Nat.le_refl n) c e S _ h⟩
 unfold exU
 rw [dif_pos h1]
 obtain ⟨m,hm⟩:=Classical.choose_spec h1
 have e1:=exec_mono hc (Nat.le_max_left n m) c e S _ h
 have e2:=exec_mono (fun _ _ _ _ h => h) (Nat.le_max_right n m) c e S _ hm
 rw [e1] at e2
 exact e2.symm
theorem exU_mono {cl cl' : CallFn} (hc : CLe cl cl') (c : IC) (e : Env) (S : St) : Le (exU cl c e S) (exU cl' c e S):=fun r h => by
 obtain ⟨n,hn⟩:=exU_some h
 exact exU_of hc hn
end Go.Proofs.YtmeakjgbjldkdaaGreat.Ai
