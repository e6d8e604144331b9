/- A part of what is proved: Env. No condition. -/
import Derived.Test.YtmeakjgbjldkdaaGreatVa17
set_option maxRecDepth 100000
set_option maxHeartbeats 16000000
namespace Go.Proofs.YtmeakjgbjldkdaaGreat.Ai
open Go
theorem prB_sim : ∀ f p,PrB f = some p → PrimSim Tryz.prog f p:=by
 intro f p h
 unfold PrB at h
 split at h
 ·simp only [Option.some.injEq] at h; subst h; exact join_sim
 ·simp only [Option.some.injEq] at h; subst h; exact once_sim
 ·simp only [Option.some.injEq] at h; subst h; exact slots_sim
 ·simp only [Option.some.injEq] at h; subst h; exact clone_sim
 ·simp at h
theorem pl_lst (sz : Nat) (rows : List (List AV)) : plain1 (lst sz rows) = plainLL rows:=by
 cases rows with
 | nil => rfl
 | cons r rs => simp only [lst,plain1,tagPl,Bool.true_and]
theorem pl_app : ∀ (a b : List AV),plainL (a ++ b) = (plainL a && plainL b)
 | [],b => by simp [plainL]
 | x :: a,b => by simp only [List.cons_append,plainL,pl_app a b,Bool.and_assoc]
theorem pl_map {α : Type} (f : α → List AV) (h : ∀ x,plainL (f x) = true) : ∀ l : List α,plainLL (l.map f) = true
 | [] => rfl
 | x :: l => by simp only [List.map_cons,plainLL,h,pl_map f h l,Bool.and_self]
mutual
theorem pl_ty : ∀ t : Ty,plainL (tyRow t) = true
 | .mk kind name null elem pred at_ => by simp only [tyRow,plainL,plain1,pl_lst,pl_tys elem,pl_exs pred,Bool.and_self]
theorem pl_tys : ∀ ts : List Ty,plainLL (tyRows ts) = true
 | [] => by simp only [tyRows,plainLL]
 | t :: ts => by simp only [tyRows,plainLL,pl_ty t,pl_tys ts,Bool.and_self]
theorem pl_ex : ∀ t : Xp,plainL (exRow t) = true
 | .mk op name args ty at_ => by simp only [exRow,plainL,plain1,pl_lst,pl_tys ty,pl_exs args,Bool.and_self]
theorem pl_exs : ∀ ts : List Xp,plainLL (exRows ts) = true
 | [] => by simp only [exRows,plainLL]
 | t :: ts => by simp only [exRows,plainLL,pl_ex t,pl_exs ts,Bool.and_self]
end
mutual
theorem pl_sm : ∀ t : Sm,plainL (smRow t) = true
 | .mk kind name ty exs body els at_ => by simp only [smRow,plainL,plain1,pl_lst,pl_tys ty,pl_exs exs,pl_sms body,pl_sms els,Bool.and_self]
theorem pl_sms : ∀ ts : List Sm,plainLL (smRows ts) = true
 | [] => by simp only [smRows,plainLL]
 | t :: ts => by simp only [smRows,plainLL,pl_sm t,pl_sms ts,Bool.and_self]
end
theorem pl_par (p : Par) : plainL (parRow p) = true:=by simp only [parRow,plainL,plain1,pl_app,pl_ty,Bool.and_self]
theorem pl_fld (p : Fld) : plainL (fldRow p) = true:=by simp only [fldRow,plainL,plain1,pl_app,pl_ty,Bool.and_self]
theorem pl_mth (p : Mth) : plainL (mthRow p) = true:=by simp only [mthRow,plainL,plain1,pl_app,pl_ty,pl_lst,pl_sms,pl_map parRow pl_par,Bool.and_self]
theorem pl_ctr (p : Ctr) : plainL (ctrRow p) = true:=by simp only [ctrRow,plainL,plain1,pl_lst,pl_sms,pl_exs,pl_map parRow pl_par,Bool.and_self]
theorem pl_nm (x : Str) : plainL (nmRow x) = true:=rfl
theorem pl_cls (c : Cls) : plainL (clsRow c) = true:=by
 simp only [clsRow,plainL,plain1,pl_lst,pl_exs,pl_map nmRow pl_nm,pl_map fldRow pl_fld,pl_map ctrRow pl_ctr,pl_map mthRow pl_mth,Bool.and_self]
theorem pl_prg (p : Prg) : plainL (prgRow p) = true:=by simp only [prgRow,plainL,pl_lst,pl_sms,pl_map clsRow pl_cls,Bool.and_self]
theorem libS : LibS PrB FA where
 hm:=prB_mono
 f89:=⟨rfl,rfl⟩
 f130:=⟨rfl,rfl⟩
 f131:=⟨rfl,rfl⟩
 f132:=⟨rfl,rfl⟩
 f133:=⟨rfl,rfl⟩
 f190:=⟨rfl,rfl⟩
 f191:=⟨rfl,rfl⟩
 f226:=⟨rfl,rfl⟩
 f243:=⟨rfl,rfl⟩
 f90:=⟨rfl,rfl⟩
 f93:=⟨rfl,rfl⟩
 f95:=⟨rfl,rfl⟩
 f134:=⟨rfl,rfl⟩
 f135:=⟨rfl,rfl⟩
 f136:=⟨rfl,rfl⟩
 f140:=⟨rfl,rfl⟩
 f192:=⟨rfl,rfl⟩
 f193:=⟨rfl,rfl⟩
 f195:=⟨rfl,rfl⟩
 f201:=⟨rfl,rfl⟩
 f227:=⟨rfl,rfl⟩
 f228:=⟨rfl,rfl⟩
 f244:=⟨rfl,rfl⟩
 f245:=⟨rfl,rfl⟩
 f253:=⟨rfl,rfl⟩
 f94:=⟨rfl,rfl⟩
 f141:=⟨rfl,rfl⟩
 f196:=⟨rfl,rfl⟩
 f197:=⟨rfl,rfl⟩
 f137:=⟨rfl,rfl⟩
 f194:=⟨rfl,rfl⟩
 f139:=⟨rfl,rfl⟩
 f138:=⟨rfl,rfl⟩
 f91:=⟨rfl,rfl⟩
 f92:=⟨rfl,rfl⟩
 f51:=⟨rfl,rfl⟩
theorem rd1 (x : Str) : ∃ (p : Prg) (ok : Bool),(ok = true → okPrg p ∧ p.classes.length ≤ 70 ∧ wL wCls p.classes + wSms p.main ≤ 42000000) ∧
  ∃ n S',callN PrB FA n 14 [.str x] S0 = some (.ret (.tup [.agg (prgRow p),.bool ok]),S'):=by
 obtain ⟨⟨p,ok,rw⟩,⟨-,hg⟩,hd⟩:=det_read libS ⟨rfl,rfl⟩ [] [] x
 refine ⟨p,ok,hg,?_⟩
 obtain ⟨n,r,S',h1,rfl⟩:=(hd fun r _ => r = .ret (.tup [.agg (prgRow p),.bool ok])).2 rfl
 exact ⟨n,S',h1⟩
noncomputable def thePrg (x : Str) : Prg:=Classical.choose (rd1 x)
noncomputable def theOk (x : Str) : Bool:=Classical.choose (Classical.choose_spec (rd1 x))
theorem the_spec (x : Str) : (theOk x = true → okPrg (thePrg x) ∧ (thePrg x).classes.length ≤ 70 ∧ wL wCls (thePrg x).classes + wSms (thePrg x).main ≤ 42000000) ∧
  ∃ n S',callN PrB FA n 14 [.str x] S0 = some (.ret (.tup [.agg (prgRow (thePrg x)),.bool (theOk x)]),S'):=Classical.choose_spec (Classical.choose_spec (rd1 x))
noncomputable def readP : CallFn → List AV → St → Option (Res × St):=fun _ vs S => match vs with
 | [.str x] => some (.ret (.tup [.agg (prgRow (thePrg x)),.bool (theOk x)]),S)
 | _ => none
def awakeP : CallFn → List AV → St → Option (Res × St):=fun _ vs S => match vs with
 | [] => some (.ret (.bool true),S)
 | _ => none
noncomputable def PrC : Prims:=fun n => match n with
 | 13 => some awakeP
 | 14 => some readP
 | 54 => some joinP
 | 58 => some onceP
 | 59 => some slotsP
 | 62 => some cloneP
 | _ => none
theorem prC_mono : Mono PrC:=by
 intro f p hp
 unfold PrC at hp
 split at hp
 ·simp only [Option.some.injEq] at hp; subst hp; exact fun _ _ _ _ _ _ h => h
 ·simp only [Option.some.injEq] at hp; subst hp; exact fun _ _ _ _ _ _ h => h
 ·simp only [Option.some.injEq] at hp; subst hp; exact joinP_mono
 ·simp only [Option.some.injEq] at hp; subst hp; exact onceP_mono
 ·simp only [Option.some.injEq] at hp; subst hp; exact slotsP_mono
 ·simp only [Option.some.injEq] at hp; subst hp; exact cloneP_mono
 ·simp at hp
theorem fa_chk : ∀ f fn,FA f = some fn → ∃ g,Tryz.prog.funcs[f]? = some g ∧ chkFn Tryz.prog g fn = true:=by
 intro f fn h
 unfold FA at h
 split at h
 ·simp only [Option.some.injEq] at h; subst h; exact ⟨Tryz.f3,Tryz.func3,c3⟩
 ·simp only [Option.some.injEq] at h; subst h; exact ⟨Tryz.f6,Tryz.func6,c6⟩
 ·simp only [Option.some.injEq] at h; subst h; exact ⟨Tryz.f13,Tryz.func13,c13⟩
 ·simp only [Option.some.injEq] at h; subst h; exact ⟨Tryz.f14,Tryz.func14,c14⟩
 ·simp only [Option.some.injEq] at h; subst h; exact ⟨Tryz.f15,Tryz.func15,c15⟩
 ·simp only [Option.some.injEq] at h; subst h; exact ⟨Tryz.f16,Tryz.func16,c16⟩
 ·simp only [Option.some.injEq] at h; subst h; exact ⟨Tryz.f17,Tryz.func17,c17⟩
 ·simp only [Option.some.injEq] at h; subst h; exact ⟨Tryz.f18,Tryz.func18,c18⟩
 ·simp only [Option.some.injEq] at h; subst h; exact ⟨Tryz.f19,Tryz.func19,c19⟩
 ·simp only [Option.some.injEq] at h; subst h; exact ⟨Tryz.f20,Tryz.func20,c20⟩
 ·simp only [Option.some.injEq] at h; subst h; exact ⟨Tryz.f21,Tryz.func21,c21⟩
 ·simp only [Option.some.injEq] at h; subst h; exact ⟨Tryz.f22,Tryz.func22,c22⟩
 ·simp only [Option.some.injEq] at h; subst h; exact ⟨Tryz.f23,Tryz.func23,c23⟩
 ·simp only [Option.some.injEq] at h; subst h; exact ⟨Tryz.f25,Tryz.func25,c25⟩
 ·simp only [Option.some.injEq] at h; subst h; exact ⟨Tryz.f26,Tryz.func26,c26⟩
 ·simp only [Option.some.injEq] at h; subst h; exact ⟨Tryz.f30,Tryz.func30,c30⟩
 ·simp only [Option.some.injEq] at h; subst h; exact ⟨Tryz.f33,Tryz.func33,c33⟩
 ·simp only [Option.some.injEq] at h; subst h; exact ⟨Tryz.f34,Tryz.func34,c34⟩
 ·simp only [Option.some.injEq] at h; subst h; exact ⟨Tryz.f35,Tryz.func35,c35⟩
 ·simp only [Option.some.injEq] at h; subst h; exact ⟨Tryz.f36,Tryz.func36,c36⟩
 ·simp only [Option.some.injEq] at h; subst h; exact ⟨Tryz.f51,Tryz.func51,c51⟩
 ·simp only [Option.some.injEq] at h; subst h; exact ⟨Tryz.f52,Tryz.func52,c52⟩
 ·simp only [Option.some.injEq] at h; subst h; exact ⟨Tryz.f53,Tryz.func53,c53⟩
 ·simp only [Option.some.injEq] at h; subst h; exact ⟨Tryz.f55,Tryz.func55,c55b⟩
 ·simp only [Option.some.injEq] at h; subst h; exact ⟨Tryz.f56,Tryz.func56,c56⟩
 ·simp only [Option.some.injEq] at h; subst h; exact ⟨Tryz.f57,Tryz.func57,c57⟩
 ·simp only [Option.some.injEq] at h; subst h; exact ⟨Tryz.f59,Tryz.func59,c59⟩
 ·simp only [Option.some.injEq] at h; subst h; exact ⟨Tryz.f60,Tryz.func60,c60⟩
 ·simp only [Option.some.injEq] at h; subst h; exact ⟨Tryz.f61,Tryz.func61,c61⟩
 ·simp only [Option.some.injEq] at h; subst h; exact ⟨Tryz.f64,Tryz.func64,c64⟩
 ·simp only [Option.some.injEq] at h; subst h; exact ⟨Tryz.f65,Tryz.func65,c65⟩
 ·simp only [Option.some.injEq] at h; subst h; exact ⟨Tryz.f66,Tryz.func66,c66⟩
 ·simp only [Option.some.injEq] at h; subst h; exact ⟨Tryz.f68,Tryz.func68,c68⟩
 ·simp only [Option.some.injEq] at h; subst h; exact ⟨Tryz.f69,Tryz.func69,c69⟩
 ·simp only [Option.some.injEq] at h; subst h; exact ⟨Tryz.f89,Tryz.func89,c89⟩
 ·simp only [Option.some.injEq] at h; subst h; exact ⟨Tryz.f90,Tryz.func90,c90⟩
 ·simp only [Option.some.injEq] at h; subst h; exact ⟨Tryz.f91,Tryz.func91,c91⟩
 ·simp only [Option.some.injEq] at h; subst h; exact ⟨Tryz.f92,Tryz.func92,c92⟩
 ·simp only [Option.some.injEq] at h; subst h; exact ⟨Tryz.f93,Tryz.func93,c93⟩
 ·simp only [Option.some.injEq] at h; subst h; exact ⟨Tryz.f94,Tryz.func94,c94⟩
 ·simp only [Option.some.injEq] at h; subst h; exact ⟨Tryz.f95,Tryz.func95,c95⟩
 ·simp only [Option.some.injEq] at h; subst h; exact ⟨Tryz.f96,Tryz.func96,c96⟩
 ·simp only [Option.some.injEq] at h; subst h; exact ⟨Tryz.f97,Tryz.func97,c97⟩
 ·simp only [Option.some.injEq] at h; subst h; exact ⟨Tryz.f100,Tryz.func100,c100⟩
 ·simp only [Option.some.injEq] at h; subst h; exact ⟨Tryz.f101,Tryz.func101,c101⟩
 ·simp only [Option.some.injEq] at h; subst h; exact ⟨Tryz.f102,Tryz.func102,c102⟩
 ·simp only [Option.some.injEq] at h; subst h; exact ⟨Tryz.f103,Tryz.func103,c103⟩
 ·simp only [Option.some.injEq] at h; subst h; exact ⟨Tryz.f104,Tryz.func104,c104⟩
 ·simp only [Option.some.injEq] at h; subst h; exact ⟨Tryz.f105,Tryz.func105,c105⟩
 ·simp only [Option.some.injEq] at h; subst h; exact ⟨Tryz.f106,Tryz.func106,c106⟩
 ·simp only [Option.some.injEq] at h; subst h; exact ⟨Tryz.f109,Tryz.func109,c109⟩
 ·simp only [Option.some.injEq] at h; subst h; exact ⟨Tryz.f110,Tryz.func110,c110⟩
 ·simp only [Option.some.injEq] at h; subst h; exact ⟨Tryz.f111,Tryz.func111,c111⟩
 ·simp only [Option.some.injEq] at h; subst h; exact ⟨Tryz.f127,Tryz.func127,c127⟩
 ·simp only [Option.some.injEq] at h; subst h; exact ⟨Tryz.f130,Tryz.func130,c130⟩
 ·simp only [Option.some.injEq] at h; subst h; exact ⟨Tryz.f131,Tryz.func131,c131⟩
 ·simp only [Option.some.injEq] at h; subst h; exact ⟨Tryz.f132,Tryz.func132,c132⟩
 ·simp only [Option.some.injEq] at h; subst h; exact ⟨Tryz.f133,Tryz.func133,c133⟩
 ·simp only [Option.some.injEq] at h; subst h; exact ⟨Tryz.f134,Tryz.func134,c134⟩
 ·simp only [Option.some.injEq] at h; subst h; exact ⟨Tryz.f135,Tryz.func135,c135⟩
 ·simp only [Option.some.injEq] at h; subst h; exact ⟨Tryz.f136,Tryz.func136,c136⟩
 ·simp only [Option.some.injEq] at h; subst h; exact ⟨Tryz.f137,Tryz.func137,c137⟩
 ·simp only [Option.some.injEq] at h; subst h; exact ⟨Tryz.f138,Tryz.func138,c138⟩
 ·simp only [Option.some.injEq] at h; subst h; exact ⟨Tryz.f139,Tryz.func139,c139⟩
 ·simp only [Option.some.injEq] at h; subst h; exact ⟨Tryz.f140,Tryz.func140,c140⟩
 ·simp only [Option.some.injEq] at h; subst h; exact ⟨Tryz.f141,Tryz.func141,c141⟩
 ·simp only [Option.some.injEq] at h; subst h; exact ⟨Tryz.f142,Tryz.func142,c142⟩
 ·simp only [Option.some.injEq] at h; subst h; exact ⟨Tryz.f143,Tryz.func143,c143⟩
 ·simp only [Option.some.injEq] at h; subst h; exact ⟨Tryz.f144,Tryz.func144,c144⟩
 ·simp only [Option.some.injEq] at h; subst h; exact ⟨Tryz.f145,Tryz.func145,c145⟩
 ·simp only [Option.some.injEq] at h; subst h; exact ⟨Tryz.f146,Tryz.func146,c146⟩
 ·simp only [Option.some.injEq] at h; subst h; exact ⟨Tryz.f149,Tryz.func149,c149⟩
 ·simp only [Option.some.injEq] at h; subst h; exact ⟨Tryz.f150,Tryz.func150,c150⟩
 ·simp only [Option.some.injEq] at h; subst h; exact ⟨Tryz.f151,Tryz.func151,c151⟩
 ·simp only [Option.some.injEq] at h; subst h; exact ⟨Tryz.f156,Tryz.func156,c156⟩
 ·simp only [Option.some.injEq] at h; subst h; exact ⟨Tryz.f165,Tryz.func165,c165⟩
 ·simp only [Option.some.injEq] at h; subst h; exact ⟨Tryz.f166,Tryz.func166,c166⟩
 ·simp only [Option.some.injEq] at h; subst h; exact ⟨Tryz.f190,Tryz.func190,c190⟩
 ·simp only [Option.some.injEq] at h; subst h; exact ⟨Tryz.f191,Tryz.func191,c191⟩
 ·simp only [Option.some.injEq] at h; subst h; exact ⟨Tryz.f192,Tryz.func192,c192⟩
 ·simp only [Option.some.injEq] at h; subst h; exact ⟨Tryz.f193,Tryz.func193,c193⟩
 ·simp only [Option.some.injEq] at h; subst h; exact ⟨Tryz.f194,Tryz.func194,c194⟩
 ·simp only [Option.some.injEq] at h; subst h; exact ⟨Tryz.f195,Tryz.func195,c195⟩
 ·simp only [Option.some.injEq] at h; subst h; exact ⟨Tryz.f196,Tryz.func196,c196⟩
 ·simp only [Option.some.injEq] at h; subst h; exact ⟨Tryz.f197,Tryz.func197,c197⟩
 ·simp only [Option.some.injEq] at h; subst h; exact ⟨Tryz.f198,Tryz.func198,c198⟩
 ·simp only [Option.some.injEq] at h; subst h; exact ⟨Tryz.f199,Tryz.func199,c199⟩
 ·simp only [Option.some.injEq] at h; subst h; exact ⟨Tryz.f200,Tryz.func200,c200⟩
 ·simp only [Option.some.injEq] at h; subst h; exact ⟨Tryz.f201,Tryz.func201,c201⟩
 ·simp only [Option.some.injEq] at h; subst h; exact ⟨Tryz.f204,Tryz.func204,c204⟩
 ·simp only [Option.some.injEq] at h; subst h; exact ⟨Tryz.f226,Tryz.func226,c226⟩
 ·simp only [Option.some.injEq] at h; subst h; exact ⟨Tryz.f227,Tryz.func227,c227⟩
 ·simp only [Option.some.injEq] at h; subst h; exact ⟨Tryz.f228,Tryz.func228,c228⟩
 ·simp only [Option.some.injEq] at h; subst h; exact ⟨Tryz.f229,Tryz.func229,c229⟩
 ·simp only [Option.some.injEq] at h; subst h; exact ⟨Tryz.f243,Tryz.func243,c243⟩
 ·simp only [Option.some.injEq] at h; subst h; exact ⟨Tryz.f244,Tryz.func244,c244⟩
 ·simp only [Option.some.injEq] at h; subst h; exact ⟨Tryz.f245,Tryz.func245,c245⟩
 ·simp only [Option.some.injEq] at h; subst h; exact ⟨Tryz.f253,Tryz.func253,c253⟩
 ·simp at h
theorem read_sim : PrimSim Tryz.prog 14 readP:=by
 intro cl hcl vs S r S' hx K w us R hI ha
 unfold readP at hx
 split at hx
 ·rename_i x
  simp only [Option.some.injEq,Prod.mk.injEq] at hx
  obtain ⟨rfl,rfl⟩:=hx
  obtain ⟨n,S',hn⟩:=(the_spec x).2
  exact sim_run (calls_sim prB_sim (fun f fn _ h => fa_chk f fn h) n) hn (by simp only [plain1,plainL,pl_prg,Bool.and_self]) rfl R ha
 ·simp at hx
theorem awake_sim : PrimSim Tryz.prog 13 awakeP:=by
 intro cl hcl vs S r S' hx K w us R hI ha
 unfold awakeP at hx
 split at hx
 ·simp only [Option.some.injEq,Prod.mk.injEq] at hx
  obtain ⟨rfl,rfl⟩:=hx
  obtain ⟨n,hn⟩:=e_k13
  exact sim_run (calls_sim prB_sim (fun f fn _ h => fa_chk f fn h) n) (f:=13) (vs:=[]) (v:=.bool true) (S':=k13.T) hn rfl rfl R ha
 ·simp at hx
theorem prC_sim : ∀ f p,PrC f = some p → PrimSim Tryz.prog f p:=by
 intro f p h
 unfold PrC at h
 split at h
 ·simp only [Option.some.injEq] at h; subst h; exact awake_sim
 ·simp only [Option.some.injEq] at h; subst h; exact read_sim
 ·simp only [Option.some.injEq] at h; subst h; exact join_sim
 ·simp only [Option.some.injEq] at h; subst h; exact once_sim
 ·simp only [Option.some.injEq] at h; subst h; exact slots_sim
 ·simp only [Option.some.injEq] at h; subst h; exact clone_sim
 ·simp at h
theorem det_run {pr : Prims} {F : Nat → Option IFn} (hp : Mono pr) {n f : Nat} {vs : List AV} {S S' : St} {r : Res} (h : callN pr F n f vs S = some (r,S')) : Det pr F f vs S r S':=by
 have h2 : Wp pr F f vs S fun a b => a = r ∧ b = S':=⟨n,r,S',h,rfl,rfl⟩
 obtain ⟨r',S2,hd,rfl,rfl⟩:=h2.det hp
 exact hd
theorem strs_nm : ∀ l : List Str,strsOf (l.map nmRow) = some l
 | [] => rfl
 | s :: l => by
  show (match strsOf (l.map nmRow) with | some l => some (s :: l) | none => none) = _
  rw [strs_nm l]
theorem sum_len (k : Nat) (hk : 0 < k) : ∀ l : List Str,sumLen k l = (l.map fun x => x.length + k).sum ∧ l.length ≤ (l.map fun x => x.length + k).sum
 | [] => ⟨rfl,Nat.le_refl _⟩
 | s :: l => by
  obtain ⟨h1,h2⟩:=sum_len k hk l
  simp only [sumLen,List.map_cons,List.sum_cons,List.length_cons]
  omega
theorem join_det {F : Nat → Option IFn} (l : List Str) (sep : Str) (v : AV) (H : List Blk) (rw : List Nat) (hv : IsL 1 v (l.map nmRow)) (hl : (l.map fun x => x.length + sep.length).sum ≤ 2147483648) (hs : 0 < sep.length) :
  Det PrC F 54 [v,.str sep] ⟨H,rw⟩ (.ret (.str (joinT sep l))) ⟨H,rw⟩:=by
 obtain ⟨z,tg,rfl,-,-⟩:=hv.ex
 obtain ⟨h1,h2⟩:=sum_len sep.length hs l
 refine det_run prC_mono (n:=1) ?_
 show joinP (callN PrC F 0) [.list z tg (l.map nmRow),.str sep] ⟨H,rw⟩ = _
 simp only [joinP,strs_nm]
 rw [if_pos ⟨by omega,by omega⟩]
theorem libH : LibH PrC FA where
 hm:=prC_mono
 f89:=⟨rfl,rfl⟩
 f130:=⟨rfl,rfl⟩
 f131:=⟨rfl,rfl⟩
 f132:=⟨rfl,rfl⟩
 f133:=⟨rfl,rfl⟩
 f190:=⟨rfl,rfl⟩
 f191:=⟨rfl,rfl⟩
 f226:=⟨rfl,rfl⟩
 f243:=⟨rfl,rfl⟩
 f90:=⟨rfl,rfl⟩
 f93:=⟨rfl,rfl⟩
 f95:=⟨rfl,rfl⟩
 f134:=⟨rfl,rfl⟩
 f135:=⟨rfl,rfl⟩
 f136:=⟨rfl,rfl⟩
 f140:=⟨rfl,rfl⟩
 f192:=⟨rfl,rfl⟩
 f193:=⟨rfl,rfl⟩
 f195:=⟨rfl,rfl⟩
 f201:=⟨rfl,rfl⟩
 f227:=⟨rfl,rfl⟩
 f228:=⟨rfl,rfl⟩
 f244:=⟨rfl,rfl⟩
 f245:=⟨rfl,rfl⟩
 f253:=⟨rfl,rfl⟩
 f94:=⟨rfl,rfl⟩
 f141:=⟨rfl,rfl⟩
 f196:=⟨rfl,rfl⟩
 f197:=⟨rfl,rfl⟩
 f137:=⟨rfl,rfl⟩
 f194:=⟨rfl,rfl⟩
 f139:=⟨rfl,rfl⟩
 f138:=⟨rfl,rfl⟩
 f91:=⟨rfl,rfl⟩
 f92:=⟨rfl,rfl⟩
 f51:=⟨rfl,rfl⟩
 f19:=⟨rfl,rfl⟩
 f15:=⟨rfl,rfl⟩
 f17:=⟨rfl,rfl⟩
 f20:=⟨rfl,rfl⟩
 f26:=⟨rfl,rfl⟩
 f30:=⟨rfl,rfl⟩
 f56:=⟨rfl,rfl⟩
 f64:=⟨rfl,rfl⟩
 f65:=⟨rfl,rfl⟩
 f66:=⟨rfl,rfl⟩
 f100:=⟨rfl,rfl⟩
 f101:=⟨rfl,rfl⟩
 f102:=⟨rfl,rfl⟩
 f103:=⟨rfl,rfl⟩
 f104:=⟨rfl,rfl⟩
 f105:=⟨rfl,rfl⟩
 f106:=⟨rfl,rfl⟩
 f149:=⟨rfl,rfl⟩
 f150:=⟨rfl,rfl⟩
 f151:=⟨rfl,rfl⟩
 f16:=⟨rfl,rfl⟩
 f18:=⟨rfl,rfl⟩
 f21:=⟨rfl,rfl⟩
 f53:=⟨rfl,rfl⟩
 f57:=⟨rfl,rfl⟩
 f204:=⟨rfl,rfl⟩
 f52:=⟨rfl,rfl⟩
 f96:=⟨rfl,rfl⟩
 f97:=⟨rfl,rfl⟩
 f127:=⟨rfl,rfl⟩
 f142:=⟨rfl,rfl⟩
 f143:=⟨rfl,rfl⟩
 f144:=⟨rfl,rfl⟩
 f145:=⟨rfl,rfl⟩
 f146:=⟨rfl,rfl⟩
 f198:=⟨rfl,rfl⟩
 f199:=⟨rfl,rfl⟩
 f200:=⟨rfl,rfl⟩
 f229:=⟨rfl,rfl⟩
 f55:=⟨rfl,rfl⟩
 f23:=⟨rfl,rfl⟩
 f33:=⟨rfl,rfl⟩
 f34:=⟨rfl,rfl⟩
 f35:=⟨rfl,rfl⟩
 f36:=⟨rfl,rfl⟩
 f68:=⟨rfl,rfl⟩
 f69:=⟨rfl,rfl⟩
 f111:=⟨rfl,rfl⟩
 f3:=⟨rfl,rfl⟩
 f6:=⟨rfl,rfl⟩
 rd:=fun x => ⟨thePrg x,theOk x,(the_spec x).1,fun _H _rw => det_run prC_mono (n:=1) rfl⟩
 join:=join_det
 awake:=fun _S => det_run prC_mono (n:=1) rfl
theorem to_row {F : Nat → Option IFn} (hF : ∀ f fn,F f = some fn → ∃ g,Tryz.prog.funcs[f]? = some g ∧ chkFn Tryz.prog g fn = true) {f : Nat} {vs : List AV} {us : List Value} (hf : PrC f = none) (h : Wp PrC F f vs S0 TrueQ) (ha : RepT K0 vs us) (w : World) :
  Calls Tryz.prog f us.toArray w fun e w' => e = .returned (.bool true) ∧ RowKit.Below w.heap.size w w':=by
 obtain ⟨n,r,S',h1,rfl⟩:=h
 exact to_calls prC_sim (fun f fn _ h => hF f fn h) hf (callN_le prC_mono n _ _ _ _ h1) ha w
end Go.Proofs.YtmeakjgbjldkdaaGreat.Ai
