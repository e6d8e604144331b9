/- Who is above whom is what the classes say: for every text the statement's function returns true. No condition. -/
import Derived.Test.YtmeakjgbjldkdaaGreatVa18
import Derived.Test.YtmeakjgbjldkdaaGreatRows
import Derived.ProofKit
set_option maxRecDepth 100000
set_option maxHeartbeats 16000000
namespace Go.Proofs.YtmeakjgbjldkdaaGreat.Ai
open Go
variable {pr : Prims} {F : Nat → Option IFn}
theorem wp_above (L : LibH pr F) {x : Str} {p : Prg} {ok : Bool} (hrd : RdOk pr F x p ok) (H : List Blk) (rw : List Nat) : Wp pr F 6 [.str x] ⟨H,rw⟩ TrueQ:=by
 have hm:=L.hm
 have haw:=L.awake ⟨H,rw⟩
 refine at_start hm L.f6.1 L.f6.2 rfl ?_
 refine' hGO
 obtain ⟨r,S',hd,hN⟩:=(wp_table L.toLibF hrd H rw).det hm
 rcases hN with ⟨rw',hR,rfl,rfl⟩ | ⟨H',rw2,n,mb,z,zb,tg,tb,U,hK,hn,hR0,hle,T,hall,hfw,rfl,rfl⟩
 ·refine g_call rfl rfl rfl ?_
  refine c_det hd ?_
  refine zrk7 ?_
  refine' stI
  exact fin_true rfl
 obtain ⟨cs,mn⟩:=p
 simp only at hle T hall hfw hd
 have hlt : n < H'.length:=(List.getElem?_eq_some_iff.1 T.at_).1
 have hR : Rx rw2 rw2:=Rx.rfl
 have hlm : (cs.map clsRow).length = cs.length:=List.length_map _
 have hln : (namesF cs).length = cs.length:=List.length_map _
 refine g_call rfl rfl rfl ?_
 refine c_det hd ?_
 clear hd hR0
 rw [← st_of T.at_]
 refine zrk7 ?_
 refine' stI
 obtain ⟨v,rw3,hv,hR3,hd3⟩:=det_namesL L.toLibG (T.keep (keep_n T.at_ [])) (rw:=rw2)
 obtain ⟨zn,tgn,rfl,hzn,-⟩:=hv.ex
 refine g_call rfl rfl rfl ?_
 refine c_det hd3 ?_
 clear hd3 hR hR3
 refine zrk7 ?_
 refine' stI
 refine at_loop hm (fun mm e S' => ∃ (i : Nat) (J : List Blk) (rw' : List Nat),S' = ⟨hp H' n (.cells [.list z tg (cs.map clsRow),.map mb,.list zb tb (U.map upRow),.int .u32 0,.int .i32 0,.int .u32 0,.list 0 .full []]) J,rw'⟩ ∧ i ≤ cs.length ∧ mm = cs.length - i ∧
  e = [(3,.ptr n 0),(4,lst 9 (cs.map clsRow)),(5,.list zn tgn ((namesF cs).map nmRow)),(6,.int .i64 i)]) ?_ (m:=cs.length) ⟨0,[],rw3,rfl,by omega,rfl,rfl⟩
 clear rw3
 rintro mm e S' ⟨i,J,rw3,rfl,hi0,rfl,rfl⟩
 have hR : Rx rw3 rw3:=Rx.rfl
 by_cases hi : i < cs.length
 ·obtain ⟨c,hc⟩ : ∃ c,cs[i]? = some c:=⟨_,List.getElem?_eq_getElem hi⟩
  obtain ⟨u,hu⟩ : ∃ u,U[i]? = some u:=⟨_,List.getElem?_eq_getElem (by rw [T.ulen]; exact hi)⟩
  have hcr : (cs.map clsRow)[i]? = some (clsRow c):=by rw [List.getElem?_map,hc]; rfl
  have hnr : ((namesF cs).map nmRow)[i]? = some (nmRow c.name):=by rw [List.getElem?_map,namesF,List.getElem?_map,hc]; rfl
  have hz1 : zn = 1:=hzn (by intro h; rw [h] at hnr; simp at hnr)
  subst hz1
  have hl9 : lst 9 (cs.map clsRow) = .list 9 .dead (cs.map clsRow):=lst_of_lt (i:=i) (by omega)
  have htx:=tx_aboveR L.toLibG (Nat.le_trans hle (by omega)) T.linked T.okc T.wt hi
  rw [hl9] at htx
  obtain ⟨bR,hbR⟩ : ∃ bR,bR = boolRows (upB cs i):=⟨_,rfl⟩
  rw [← hbR] at htx
  have hui:=T.ups i u hu
  have hue:=ups_eq hui
  have hau : aboveF cs U c.name = u:=by
   rw [aboveF,T.unlike i c hc]
   simp only [List.getD_eq_getElem?_getD,hu,Option.getD_some]
  rw [hl9]
  refine' stI
  obtain ⟨v,rw4,hvA,hR4,hd4⟩:=det_aboveT L.toLibG (T.keep (keep_n T.at_ J)) c.name (rw:=rwt)
  rw [hau] at hvA
  obtain ⟨za,tga,rfl,hza,-⟩:=hvA.ex
  refine g_call rfl rfl rfl ?_
  refine c_det hd4 ?_
  clear hd4 hR hR4
  refine zrk7 ?_
  refine' stI
  have hlu : (namesAt cs u).length = (trues (upB cs i) cs.length).length:=by rw [namesAt,List.length_map,← hue]
  refine at_loop hm (fun mm e S' => ∃ (k N : Nat) (rw' : List Nat),N = (trues (upB cs i) k).length ∧ S' = ⟨hp H' n (.cells [.list z tg (cs.map clsRow),.map mb,.list zb tb (U.map upRow),.int .u32 0,.int .i32 0,.int .u32 0,.list 0 .full []]) J,rw'⟩ ∧ k ≤ cs.length ∧ mm = cs.length - k ∧
   e = [(3,.ptr n 0),(4,.list 9 .dead (cs.map clsRow)),(5,.list 1 tgn ((namesF cs).map nmRow)),(6,.int .i64 i),(7,.list 1 .dead bR),(8,.list za tga ((namesAt cs u).map nmRow)),(9,.int .i64 N),(10,.int .i64 k)]) ?_ (m:=cs.length) ⟨0,0,rw4,rfl,rfl,by omega,rfl,rfl⟩
  clear rwt rw4 hRt
  rintro mm e S' ⟨k,N,rw4,hN,rfl,hk0,rfl,rfl⟩
  have hR : Rx rw4 rw4:=Rx.rfl
  by_cases hk : k < cs.length
  ·obtain ⟨d,hdk⟩ : ∃ d,cs[k]? = some d:=⟨_,List.getElem?_eq_getElem hk⟩
   have hdr : (cs.map clsRow)[k]? = some (clsRow d):=by rw [List.getElem?_map,hdk]; rfl
   obtain ⟨bk,hbk⟩ : ∃ bk,(upB cs i)[k]? = some bk:=⟨_,List.getElem?_eq_getElem (by rw [upB_len]; exact hk)⟩
   have hbr : bR[k]? = some [.bool bk]:=by rw [hbR,boolRows,List.getElem?_map,hbk]; rfl
   have hbel:=below_eq T.unlike T.linked hc hdk hu hui hbk
   have htk:=trues_succ (upB cs i) k
   have htl:=trues_len (upB cs i) k
   rw [← hN] at htl
   rw [List.getD_eq_getElem?_getD,hbk,Option.getD_some] at htk
   obtain ⟨rw5,hR5,hd5⟩:=det_below L.toLibG (T.keep (keep_n T.at_ J)) c.name d.name (rw:=rw4)
   rw [hbel] at hd5
   cases bk with
   | true =>
    have hat : ((namesAt cs u).map nmRow)[N]? = some (nmRow d.name):=by
     rw [hN,List.getElem?_map,namesAt,List.getElem?_map,hue,trues_at hbk cs.length hk]
     simp only [Option.map_some,nameAt,hdk]
    have hat2:=(List.getElem?_eq_some_iff.1 hat).1
    rw [List.length_map] at hat2
    have hz1 : za = 1:=hza (by intro h; rw [h] at hat; simp at hat)
    subst hz1
    rw [Bool.true_or] at hd5
    have htk2 : N + 1 = (trues (upB cs i) (k + 1)).length:=by rw [htk,hN]; simp
    clear htk
    refine' stI
    exact ⟨cs.length - (k + 1),by omega,k + 1,N + 1,rw5,htk2,rfl,by omega,rfl,rfl⟩
   | false =>
    rw [Bool.false_or] at hd5
    have htk2 : N = (trues (upB cs i) (k + 1)).length:=by rw [htk,hN]; simp
    clear htk
    by_cases hik : i = k
    ·rw [decide_eq_true hik] at hd5
     subst hik
     obtain rfl : d = c:=by rw [hc] at hdk; simpa using hdk.symm
     refine' stI
     exact ⟨cs.length - (i + 1),by omega,i + 1,N,rw5,htk2,rfl,by omega,rfl,rfl⟩
    ·rw [decide_eq_false hik] at hd5
     refine' stI
     exact ⟨cs.length - (k + 1),by omega,k + 1,N,rw5,htk2,rfl,by omega,rfl,rfl⟩
  ·have hke : k = cs.length:=by omega
   subst hke
   have hNl : N = (namesAt cs u).length:=by rw [hN,hlu]
   clear hN hlu
   refine' stI
   obtain ⟨v,rw6,hv9,hvc,hR6,hd6⟩:=det_class L.toLibG (T.keep (keep_n T.at_ (J ++ [.cells [.str [],.bool false,.str [],.list 0 .full [],.list 0 .full [],.list 0 .full [],.list 0 .full [],.list 0 .full [],.int .i64 0]]))) c.name (rw:=rw4)
   obtain rfl : v = clsRow c:=hvc i c (T.unlike i c hc) hc
   rw [T.unlike i c hc] at hd6
   simp only [Option.isSome_some] at hd6
   refine g_call rfl rfl rfl ?_
   refine c_det hd6 ?_
   clear hd6
   refine zrk7 ?_
   refine' stI
   exact ⟨cs.length - (i + 1),by omega,i + 1,_,rw6,rfl,by omega,rfl,rfl⟩
 ·refine' stI
  obtain ⟨v,rw6,hv9,hvc,hR6,hd6⟩:=det_class L.toLibG (T.keep (keep_n T.at_ (J ++ [.cells [.str [],.bool false,.str [],.list 0 .full [],.list 0 .full [],.list 0 .full [],.list 0 .full [],.list 0 .full [],.int .i64 0]]))) [] (rw:=rw3)
  rw [place_nil T.okc] at hd6
  simp only [Option.isSome_none] at hd6
  refine g_call rfl rfl rfl ?_
  refine c_det hd6 ?_
  clear hd6 hR
  have hR : Rx rw6 rw6:=Rx.rfl
  refine zrk7 ?_
  refine' stI
  obtain ⟨rw7,hR7,hd7⟩:=det_below L.toLibG (T.keep (keep_n T.at_ (J ++ [.cells v]))) [] [] (rw:=rw6)
  have hb0 : belowF cs U [] [] = false:=by rw [belowF,place_nil T.okc]
  rw [hb0] at hd7
  refine g_call rfl rfl rfl ?_
  refine c_det hd7 ?_
  clear hd7
  refine zrk7 ?_
  refine' stI
  obtain ⟨v1,rw8,hv1,hR8,hd8⟩:=det_aboveT L.toLibG (T.keep (keep_n T.at_ (J ++ [.cells v]))) [49] (rw:=rw7)
  have ha1 : aboveF cs U [49] = []:=by rw [aboveF,place_one T.okc]
  rw [ha1] at hv1
  change IsL 1 v1 [] at hv1
  obtain ⟨z1,tg1,rfl,-,-⟩:=hv1.ex
  refine g_call rfl rfl rfl ?_
  refine c_det hd8 ?_
  clear hd8
  refine zrk7 ?_
  refine' stI
  exact fin_true rfl
end Go.Proofs.YtmeakjgbjldkdaaGreat.Ai
namespace Go.Proofs.YtmeakjgbjldkdaaGreat
open Go.ChangeShapes Go.WideShapes Go.ChangeAt Go.RowKit
open Go.ChangeMaps (open_string shut_string)
theorem Tryz.own : ownKnob Tryz.prog.godebug = none:=by kernel_rfl
theorem above_walk (s : ByteArray) (w : World) : Calls Tryz.prog 6 #[.string s] w fun e w' => e = .returned (.bool true) ∧ Below w.heap.size w w':=by
 obtain ⟨⟨l⟩⟩:=s
 obtain ⟨p,ok,hrd⟩:=Ai.libH.rd l
 exact Ai.to_row Ai.fa_chk (us:=[.string ⟨⟨l⟩⟩]) rfl (Ai.wp_above Ai.libH hrd [] []) (by simp only [Ai.RepT,Ai.Rep]; exact ⟨_,_,rfl,rfl,rfl⟩) w
theorem above_lifted (os : Os) (started : os.Started) (H : Type) (enc : TypeId × Value → H) :
  ReturnsInHanded {} Tryz.checked os 6 .any (Rows.classesAboveSpec.pre6 enc Tryz.prog Tryz.f6 Rows.classesAboveRow.domain false) (Rows.classesAboveSpec.post enc Tryz.prog Tryz.f6 false true false false):=by
 refine returnsInHanded_of_change (C:=Tryz.checked) Tryz.own started (by kernel_rfl) Tryz.func6
  (ChangeSpec.witness6 (enc:=enc) (C:=Tryz.checked) false ⟨#[],#[.string ⟨#[]⟩],[]⟩ 8 (by kernel_rfl) (by kernel_rfl) (by kernel_rfl) (by kernel_rfl)) ?_
 intro W base args ds gs before hval0 hW hcnd _
 have hval : ∀ (j : Nat) t v,Tryz.f6.params[j]? = some t → args[j]? = some v → Value.okWide Tryz.prog W .any base t v:=hval0
 have hW':=hW
 obtain ⟨p,q,hA0,hV,rfl,hfz,hnd⟩:=hW
 have hA : DataW.TrodAll enc Tryz.prog W 0 (fun _ => true) true Tryz.f6.params.toList args.toList ds p:=hA0
 rw [Tryz.params6] at hA hval
 obtain ⟨v0,d0,rfl,rfl,h0⟩:=trodAll_one hA
 obtain ⟨rfl,rfl⟩:=trodVars_none hV
 obtain ⟨s,rfl,rfl,rfl,hs⟩:=open_string Tryz.underlying9 (hval 0 9 v0 rfl rfl) h0
 clear hA0 hval0
 simp only [List.append_nil] at hW'
 refine (above_walk s W).mono fun e W' ⟨he,hb⟩ => ?_
 subst he
 exact ⟨_,rfl,_,_,_,[],[],[],hW',trodAll_mk1 (shut_bool Tryz.underlying4 true),trodAll_mk1 (shut_string Tryz.underlying9 hs),rfl,hb.frame _,fun h => by cases h⟩
theorem classesAbove_holds : Rows.ClassesAboveSaid:=
 OpenClaim.holds_of_wide 6 Tryz.f6 rfl rfl rfl rfl rfl rfl rfl ⟨rfl,rfl,rfl,rfl,rfl⟩ rfl rfl rfl rfl rfl (by kernel_rfl) Tryz.func6 (by kernel_rfl)
  (of_decide_eq_true (by kernel_rfl)) (by unfold Func.isWrapper; first | (rw [if_pos (by decide +kernel)]; kernel_rfl) | (rw [if_neg (by decide +kernel)]; exact ⟨rfl,rfl⟩))
  (fun os started H enc _ => above_lifted os started H enc)
#print axioms classesAbove_holds
end Go.Proofs.YtmeakjgbjldkdaaGreat
