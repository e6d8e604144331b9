/- A part of what is proved: B0, Pri, L10, FA, Shelf, JoinS, CloneS, SrtP, SloA, Slo, Awk. No condition. -/
import Derived.Test.YtmeakjgbjldkdaaGreatVa15
import Derived.Test.YtmeakjgbjldkdaaGreatProg
import Derived.KernelRfl
import Derived.Shelf.Strings.Builder1
import Derived.Shelf.Strings.Builder2
import Derived.Shelf.Strings.OnBuilder
import Derived.Shelf.Small.Strs
import Derived.Shelf.Sort.Plain
import Derived.Ground.Names2Prog
import Derived.Shelf.Slices.Clone
import Derived.Shelf.Slices.CompactS
import Derived.Shelf.Slices.Cells
import Derived.Shelf.Slices.In.SortNone
import Derived.Sort.Walk0
set_option maxRecDepth 100000
set_option maxHeartbeats 16000000
namespace Go.Proofs.YtmeakjgbjldkdaaGreat.Ai
open Go
variable {pr : Prims} {F : Nat → Option IFn}
structure LibH (pr : Prims) (F : Nat → Option IFn) : Prop extends LibG pr F where
 f3 : Has pr F 3 i3
 f6 : Has pr F 6 i6
section
variable {b0 base ix : Nat} {d : Option Nat} {g : Option (Nat × Bool)} {prev items : List Item} {kp : List Nat} {k : List Fr} {e : Env} {Q : Ex → Env → St → Prop} {S : St}
theorem id_bld {zs : List AV} {parts : List (Nat × Nat × Opd)} (h : In pr F b0 Q base prev (⟨ix,d,g,.q (.build zs parts)⟩ :: items) kp k e S) : In pr F b0 Q base prev (⟨ix,d,g,.q (.build zs parts)⟩ :: items) kp k e S:=h
theorem i_listR {sz m : Nat} {tag : Tag} {rows : List (List AV)} {r : List AV} {ki : IntKind} {n : Int} {K : AV → Prop} (hn : n = (m : Nat)) (hr : rows[m]? = some r) (h : K (.ref r)) : IaAt sz (.list sz tag rows) (.int ki n) K:=i_list hr hn h
end
theorem zrk7 {base : Nat} {H0 : List Blk} {prev : List Item} {re : List Nat} {e : Env} {X : Prop} (hx : X) (h : recheck prev re e H0 base = true:=by first | with_reducible exact rec_nil | (repeat' first | with_reducible exact rc_end | refine rc_skip rfl ?_ | (refine id_rcload ?_; first | refine rc_off rfl ?_ | refine rc_load (rw:=[]) rfl rfl rfl ?_ ?_) | (refine id_rcalloc ?_; refine rc_allocN (by assumption) rfl (by (simp only [Nat.reduceAdd,Nat.add_zero]; try rfl)) (by (first | rfl | assumption | exact at_bk0 | exact at_bk1 | exact at_bk2 | exact at_bk3 | exact at_bk4 | exact at_bl0 | exact at_bl1 | exact at_bl2 | exact at_bl3 | exact at_bl4)) rfl ?_) | (refine id_rclk ?_; first | refine rc_off rfl ?_ | refine rc_lookup (rw:=[]) rfl rfl rfl rfl ?_ ?_) | refine rc_off rfl ?_ | refine rc_keep rfl rfl rfl ?_ | (refine l_ref0 rfl ?_)      | (refine id_lref ?_; first | refine zlr ?_ | refine zls ?_)      | (refine id_lown ?_; first | refine zlo ?_ | refine zlo2 ?_ | refine zlo3 ?_ | refine zlx ?_)      | (refine id_lown0 ?_; first | refine zlo0 ?_ | refine zlm0 ?_ | refine zlx0 ?_)      | (refine id_ln0 ?_; refine zln0 ?_)      | (refine id_lptr0 ?_; first | refine zlp0 ?_ | refine zlf0 ?_)      | (refine id_lownP ?_; (first | refine zloP ?_ par_ty | refine zloP ?_ fld_ty | refine zloP ?_ mth_ty | refine zloP ?_ mem_ty)) | (refine id_lptr ?_; first | refine zlpc ?_ | refine zlfc ?_ | refine zlnC ?_) | rfl)) : recheck prev re e H0 base = true ∧ X:=⟨h,hx⟩
def TrueQ : Res → St → Prop:=fun r _ => r = .ret (.bool true)
theorem fin_true {t n0 : Nat} {e : Env} {S' : St} (he : eget e t = some (.bool true)) : fin [.tmp t] n0 TrueQ .ret e S':=by
 simp only [fin,rvals,he,packed,leave,Ai.below,if_true,TrueQ]
theorem trues_at {bs : List Bool} {k : Nat} (h : bs[k]? = some true) : ∀ N,k < N → (trues bs N)[(trues bs k).length]? = some k:=by
 intro N
 induction N with
 | zero => intro h; omega
 | succ N ih =>
  intro hk
  rw [trues_succ]
  by_cases hkN : k = N
  ·subst hkN
   rw [List.getElem?_append_right (Nat.le_refl _),Nat.sub_self,List.getD_eq_getElem?_getD,h]
   rfl
  ·have h1:=ih (by omega)
   rw [List.getElem?_append_left (List.getElem?_eq_some_iff.1 h1).1]
   exact h1
theorem ups_eq {cs : List Cls} {i : Nat} {u : List Nat} (h : IsUps cs i u) : u = trues (upB cs i) cs.length:=by
 obtain ⟨bs,h1,h2,h3⟩:=h
 rw [h3,upB_eq h1 h2]
theorem below_eq {cs : List Cls} {U : List (List Nat)} {i k : Nat} {c d : Cls} {u : List Nat} (hun : Unlike cs) (hli : Linked cs) (hc : cs[i]? = some c) (hd : cs[k]? = some d) (hu : U[i]? = some u) (hup : IsUps cs i u) {bk : Bool} (hb : (upB cs i)[k]? = some bk) :
  belowF cs U c.name d.name = (bk || decide (i = k)):=by
 unfold belowF
 rw [hun i c hc,hun k d hd]
 simp only [List.getD_eq_getElem?_getD,hu,Option.getD_some]
 rw [Bool.or_comm]
 congr 1
 have h1:=ups_mem hup hli k
 have h2:=upB_get (cs:=cs) (i:=i) (List.getElem?_eq_some_iff.1 hd).1
 rw [hb] at h2
 cases bk with
 | true => exact decide_eq_true (h1.2 (h2.1 rfl))
 | false => exact decide_eq_false (fun h => by have:=h2.2 (h1.1 h); simp at this)
theorem place_one {cs : List Cls} (h : ∀ c ∈ cs,okCls c) : place cs [49] = none:=by
 cases hp : place cs [49] with
 | none => rfl
 | some i =>
  obtain ⟨c,hc,hn⟩:=place_get hp
  have h1:=(h c (List.mem_of_getElem? hc)).1.first
  rw [hn] at h1
  exact absurd (h1 49 rfl) (by decide)
theorem stI {Q : Prop} (h : Q:=by (repeat' (first | (refine in_id ?_; first  | (refine id_mov ?_; first | refine g_mov rfl rfl ?_ | refine in_no rfl ?_)  | (refine id_bin ?_; first    | (refine g_bin rfl rfl rfl ?_; first      | (refine id_bnS .add ?_; first | refine b_cat (by first | omega | (simp only [List.length_append,List.length_cons,List.length_nil]; omega)) ?_ | refine b_str rfl ?_)      | (refine id_bn .add ?_; first | refine b_int rfl (wrap64 (by omega) (by omega)) ?_ | refine b_int rfl rfl ?_)      | (refine id_bn .sub ?_; first | refine b_int rfl (wrap64 (by omega) (by omega)) ?_ | refine b_int rfl rfl ?_)      | (refine id_bnS .eql ?_; first | refine b_eqt (by decide) ?_ | refine b_eqf (by decide) ?_) | refine b_true rfl (by first | with_reducible rfl | assumption | (simp only [decide_eq_true_eq,beq_iff_eq,bne_iff_ne,ne_eq,Bool.not_eq_true',beq_eq_false_iff_ne,List.length_map]; first | done | omega | assumption) | decide) ?_      | refine b_false rfl (by first | with_reducible rfl | assumption | (simp only [decide_eq_false_iff_not,beq_eq_false_iff_ne,bne_eq_false_iff_eq,ne_eq,Bool.not_eq_false',beq_iff_eq,List.length_map]; first | done | omega | assumption) | decide) ?_      | (refine b_two rfl (fun hq => ?_) (fun hq => ?_) <;> (try simp only [decide_eq_true_eq,decide_eq_false_iff_not,beq_iff_eq,beq_eq_false_iff_ne,bne_iff_ne,ne_eq,bne_eq_false_iff_eq,Bool.not_eq_true',Int.not_lt,Int.not_le,Decidable.not_not,List.length_map] at hq))      | refine b_int rfl rfl ?_)    | refine in_no rfl ?_)  | (refine id_load ?_; first    | (refine g_load rfl rfl ?_; first      | (refine l_ref0 rfl ?_)      | (refine id_lref ?_; first | refine zlr ?_ | refine zls ?_)      | (refine id_lown ?_; first | refine zlo ?_ | refine zlo2 ?_ | refine zlo3 ?_ | refine zlx ?_)      | (refine id_lown0 ?_; first | refine zlo0 ?_ | refine zlm0 ?_ | refine zlx0 ?_)      | (refine id_ln0 ?_; refine zln0 ?_)      | (refine id_lptr0 ?_; first | refine zlp0 ?_ | refine zlf0 ?_)      | (refine id_lownP ?_; (first | refine zloP ?_ par_ty | refine zloP ?_ fld_ty | refine zloP ?_ mth_ty | refine zloP ?_ mem_ty)) | (refine id_lptr ?_; first | refine zlpc ?_ | refine zlfc ?_ | refine zlnC ?_))    | refine in_no rfl ?_)  | (refine id_alloc ?_; refine zaa ?_)  | (refine id_ixa ?_; first    | (refine g_ixa rfl rfl rfl ?_; first      | (refine i_tok (by omega) (by omega) ?_; intro tk htk htk2)      | refine i_listR (by with_reducible rfl) (by assumption) ?_ | refine i_list (by assumption) (by omega) ?_      | refine i_list rfl rfl ?_      | refine i_arr (by omega) (by omega) ?_)    | refine in_no rfl ?_)  | (refine id_ix ?_; first    | refine in_byte2 rfl rfl rfl (by with_reducible rfl) (by assumption) ?_    | refine in_byte (by assumption) rfl rfl rfl (by omega) ?_    | refine in_no rfl ?_)  | (refine id_list ?_; first    | (refine g_list rfl rfl ?_; first      | (refine id_ls1 ?_; first | refine ze1 ?_ | refine ls_c rfl ?_)      | (refine id_ls2 ?_; first | refine ze2 ?_ | refine ls_c rfl ?_)      | refine ls_c rfl ?_)    | refine in_no rfl ?_)  | (refine id_cut ?_; first    | refine in_cut rfl rfl rfl rfl (by simp only [Option.getD_some,Option.getD_none]; omega) rfl ?_    | refine in_no rfl ?_)  | (refine id_len ?_; refine g_lenlst rfl rfl ?_)  | (refine id_lk ?_; refine g_lookup rfl rfl rfl ?_; first | (refine k_pl (by assumption) (fun kq kc hkq hkc hkr hkl => ?_) (fun hkq => ?_)) | (refine k_pln (by assumption) ?_)) | (refine id_q ?_; first | refine g_q rfl rfl ?_ | refine in_no rfl ?_)  | (refine id_store ?_; first    | (refine g_store rfl rfl rfl ?_; first      | (refine id_stn 0 ?_; refine s_n hlt (Nat.le_refl _) rfl (by first | rfl | exact Row.len (by (first | assumption | with_reducible exact row_ex _ | with_reducible exact row_tok _ | with_reducible exact row_ty _ | with_reducible exact row_sm _ | with_reducible exact row_par _ | with_reducible exact row_fld _ | with_reducible exact row_mth _ | with_reducible exact row_ctr _ | with_reducible exact row_cls _ | with_reducible exact row_prg _ | with_reducible exact row_nm _ | with_reducible exact row_mem _ _ _))) (by first | rfl | exact Row.len (by (first | assumption | with_reducible exact row_ex _ | with_reducible exact row_tok _ | with_reducible exact row_ty _ | with_reducible exact row_sm _ | with_reducible exact row_par _ | with_reducible exact row_fld _ | with_reducible exact row_mth _ | with_reducible exact row_ctr _ | with_reducible exact row_cls _ | with_reducible exact row_prg _ | with_reducible exact row_nm _ | with_reducible exact row_mem _ _ _))) ?_; refine zrk7 ?_) | (refine id_stn (0 + 1) ?_; refine s_rI hlt (by assumption) (by omega) ?_; intro rc _ _ _ _ _ _; refine zrk7 ?_)      | (refine id_stn (0 + 3) ?_; refine s_rDeep hlt (by assumption) (by omega) ?_; intro rc _ _ _ _ _ _; refine zrk7 ?_)      | (refine id_stown ?_; first        | (refine id_stag0 ?_; first          | (refine zsR ?_; refine zrk7 ?_)          | (refine zsA ?_; refine zrk7 ?_)) | (refine id_stagg ?_; refine zsT ?_; refine zrk7 ?_)        | (refine zsO ?_; refine zrk7 ?_)))    | refine in_no_l rfl (by first | exact rec_nil | rfl) ?_)  | (refine id_box ?_; refine g_box hlt rfl rfl rfl (by (simp only [List.map_cons,List.map_nil,List.nil_append,List.cons_append,List.append_nil,cells_agg,cells_str,cells_int,cells_bool,cells_list]; rfl)) (by (first | (simp only [List.length_cons,List.length_nil,Nat.reduceAdd,Nat.zero_add]; rfl) | rfl)) ?_; refine zrk7 ?_) | (refine id_call ?_; first    | (refine g_call rfl rfl rfl ?_; first      | (refine id_cl 56 ?_; (first | refine ⟨_,_,det_fault L _ _ _ _,?_⟩ | refine ⟨_,_,det_fault L.toLibD _ _ _ _,?_⟩); refine zrk7 ?_) | (refine id_cl2 90 (.int .i64 0) ?_; (refine c_rqb (cis0 _) hlt (by assumption) ?_ ?_ <;> intro hP <;> obtain ⟨_,_⟩:=hP <;> refine zrk7 ?_)) | (refine id_cl2 90 (.int .i64 1) ?_; (refine c_rqb (cis1 _) hlt (by assumption) ?_ ?_ <;> intro hP <;> obtain ⟨_,_⟩:=hP <;> refine zrk7 ?_)) | (refine id_cl2 90 (.int .i64 2) ?_; (refine c_rqb (cis2 _) hlt (by assumption) ?_ ?_ <;> intro hP <;> obtain ⟨_,_⟩:=hP <;> refine zrk7 ?_))      | (refine id_cl 134 ?_; refine c_rq cpl hlt (by assumption) ?_; intro _ _; refine zrk7 ?_)      | (refine id_cl 136 ?_; (refine c_rcb (ctk _) hlt (by assumption) (by omega) (by omega) ?_ ?_ <;> intro rc rwc hR' _ _ _ _ _ _ hP <;> replace hR:=hR.trans hR' <;> (try replace hRL:=hRL.trans hR') <;> obtain ⟨_,_⟩:=hP <;> refine zrk7 ?_)) | (refine id_cl 140 ?_; (refine c_rcb (cen) hlt (by assumption) (by omega) (by omega) ?_ ?_ <;> intro rc rwc hR' _ _ _ _ _ _ hP <;> replace hR:=hR.trans hR' <;> (try replace hRL:=hRL.trans hR') <;> obtain ⟨_,_⟩:=hP <;> refine zrk7 ?_)) | (refine id_cl 93 ?_; (refine c_rc (cnd _) hlt (by assumption) (by omega) (by omega) ?_; intro _ rc rwc hR' _ _ _ _ _ _ hP; replace hR:=hR.trans hR'; (try replace hRL:=hRL.trans hR'); obtain ⟨_,_⟩:=hP; refine zrk7 ?_)) | (refine id_cl 95 ?_; (refine c_rc (cfl) hlt (by assumption) (by omega) (by omega) ?_; intro _ rc rwc hR' _ _ _ _ _ _ hP; replace hR:=hR.trans hR'; (try replace hRL:=hRL.trans hR'); obtain ⟨_,_⟩:=hP; refine zrk7 ?_))      | (refine c_tx (by assumption) (hp_pos hlt) ?_; intro rwt hRt; replace hR:=hR.trans hRt; refine zrk7 ?_) | (refine c_det (by first | assumption | exact hk1 _ _ | exact hd1 _ | exact hd2 _ | exact hd3 _ | exact hd4 _ | exact hd5 _ | exact hd6 _) ?_; refine zrk7 ?_))    | refine in_no_l rfl (by first | exact rec_nil | rfl) ?_)  | (refine id_l ?_; refine in_no_l rfl (by first | exact rec_nil | rfl) ?_)  | (refine id_nil ?_; refine in_nil (by simp only [keep,List.filterMap_cons,List.filterMap_nil,args0,List.zipIdx_cons,List.zipIdx_nil,List.map_cons,List.map_nil,eput,eget,if_true,if_false,Nat.reduceEqDiff,reduceIte,Option.map_some,Option.map_none]; rfl) ?_)) | (refine at_id ?_; first  | refine at_seq hm ?_  | (refine id_region ?_; first | refine zar hm ?_ | refine at_region hm (List.append_nil _) rfl ?_)  | (refine id_cond ?_; first | refine at_true rfl ?_ | refine at_false rfl ?_ | refine at_ifb rfl (fun hq => ?_) (fun hq => ?_))  | refine at_block ?_  | refine at_skip ?_  | refine at_ret ?_  | refine at_exit ?_) | (refine back_id ?_; first  | refine back_code ?_  | refine back_blk ?_  | refine back_ret_code ?_  | refine back_ret_blk ?_  | refine back_exit_code ?_  | refine back_exit_same ?_  | refine back_exit_other (by omega) ?_  | refine back_nil ?_))); all_goals (refine ob ?_; apply_rules (newGoals:=.nonDependentOnly) only [bx]; exact trivial)) : Q:=h
theorem stJ {Q : Prop} (h : Q:=by (repeat' (first | (refine in_id ?_; (fail_if_success (refine id_bld ?_)); first  | (refine id_mov ?_; first | refine g_mov rfl rfl ?_ | refine in_no rfl ?_)  | (refine id_bin ?_; first    | (refine g_bin rfl rfl rfl ?_; first      | (refine id_bnS .add ?_; first | refine b_cat (by first | omega | (simp only [List.length_append,List.length_cons,List.length_nil]; omega)) ?_ | refine b_str rfl ?_)      | (refine id_bn .add ?_; first | refine b_int rfl (wrap64 (by omega) (by omega)) ?_ | refine b_int rfl rfl ?_)      | (refine id_bn .sub ?_; first | refine b_int rfl (wrap64 (by omega) (by omega)) ?_ | refine b_int rfl rfl ?_)      | (refine id_bnS .eql ?_; first | refine b_eqt (by decide) ?_ | refine b_eqf (by decide) ?_) | refine b_true rfl (by first | with_reducible rfl | assumption | (simp only [decide_eq_true_eq,beq_iff_eq,bne_iff_ne,ne_eq,Bool.not_eq_true',beq_eq_false_iff_ne,List.length_map]; first | done | omega | assumption) | decide) ?_      | refine b_false rfl (by first | with_reducible rfl | assumption | (simp only [decide_eq_false_iff_not,beq_eq_false_iff_ne,bne_eq_false_iff_eq,ne_eq,Bool.not_eq_false',beq_iff_eq,List.length_map]; first | done | omega | assumption) | decide) ?_      | (refine b_two rfl (fun hq => ?_) (fun hq => ?_) <;> (try simp only [decide_eq_true_eq,decide_eq_false_iff_not,beq_iff_eq,beq_eq_false_iff_ne,bne_iff_ne,ne_eq,bne_eq_false_iff_eq,Bool.not_eq_true',Int.not_lt,Int.not_le,Decidable.not_not,List.length_map] at hq))      | refine b_int rfl rfl ?_)    | refine in_no rfl ?_)  | (refine id_load ?_; first    | (refine g_load rfl rfl ?_; first      | (refine l_ref0 rfl ?_)      | (refine id_lref ?_; first | refine zlr ?_ | refine zls ?_)      | (refine id_lown ?_; first | refine zlo ?_ | refine zlo2 ?_ | refine zlo3 ?_ | refine zlx ?_)      | (refine id_lown0 ?_; first | refine zlo0 ?_ | refine zlm0 ?_ | refine zlx0 ?_)      | (refine id_ln0 ?_; refine zln0 ?_)      | (refine id_lptr0 ?_; first | refine zlp0 ?_ | refine zlf0 ?_)      | (refine id_lownP ?_; (first | refine zloP ?_ par_ty | refine zloP ?_ fld_ty | refine zloP ?_ mth_ty | refine zloP ?_ mem_ty)) | (refine id_lptr ?_; first | refine zlpc ?_ | refine zlfc ?_ | refine zlnC ?_))    | refine in_no rfl ?_)  | (refine id_alloc ?_; refine zaa ?_)  | (refine id_ixa ?_; first    | (refine g_ixa rfl rfl rfl ?_; first      | (refine i_tok (by omega) (by omega) ?_; intro tk htk htk2)      | refine i_listR (by with_reducible rfl) (by assumption) ?_ | refine i_list (by assumption) (by omega) ?_      | refine i_list rfl rfl ?_      | refine i_arr (by omega) (by omega) ?_)    | refine in_no rfl ?_)  | (refine id_ix ?_; first    | refine in_byte2 rfl rfl rfl (by with_reducible rfl) (by assumption) ?_    | refine in_byte (by assumption) rfl rfl rfl (by omega) ?_    | refine in_no rfl ?_)  | (refine id_list ?_; first    | (refine g_list rfl rfl ?_; first      | (refine id_ls1 ?_; first | refine ze1 ?_ | refine ls_c rfl ?_)      | (refine id_ls2 ?_; first | refine ze2 ?_ | refine ls_c rfl ?_)      | refine ls_c rfl ?_)    | refine in_no rfl ?_)  | (refine id_cut ?_; first    | refine in_cut rfl rfl rfl rfl (by simp only [Option.getD_some,Option.getD_none]; omega) rfl ?_    | refine in_no rfl ?_)  | (refine id_len ?_; refine g_lenlst rfl rfl ?_)  | (refine id_lk ?_; refine g_lookup rfl rfl rfl ?_; first | (refine k_pl (by assumption) (fun kq kc hkq hkc hkr hkl => ?_) (fun hkq => ?_)) | (refine k_pln (by assumption) ?_)) | (refine id_q ?_; first | refine g_q rfl rfl ?_ | refine in_no rfl ?_)  | (refine id_store ?_; first    | (refine g_store rfl rfl rfl ?_; first      | (refine id_stn 0 ?_; refine s_n hlt (Nat.le_refl _) rfl (by first | rfl | exact Row.len (by (first | assumption | with_reducible exact row_ex _ | with_reducible exact row_tok _ | with_reducible exact row_ty _ | with_reducible exact row_sm _ | with_reducible exact row_par _ | with_reducible exact row_fld _ | with_reducible exact row_mth _ | with_reducible exact row_ctr _ | with_reducible exact row_cls _ | with_reducible exact row_prg _ | with_reducible exact row_nm _ | with_reducible exact row_mem _ _ _))) (by first | rfl | exact Row.len (by (first | assumption | with_reducible exact row_ex _ | with_reducible exact row_tok _ | with_reducible exact row_ty _ | with_reducible exact row_sm _ | with_reducible exact row_par _ | with_reducible exact row_fld _ | with_reducible exact row_mth _ | with_reducible exact row_ctr _ | with_reducible exact row_cls _ | with_reducible exact row_prg _ | with_reducible exact row_nm _ | with_reducible exact row_mem _ _ _))) ?_; refine zrk7 ?_) | (refine id_stn (0 + 1) ?_; refine s_rI hlt (by assumption) (by omega) ?_; intro rc _ _ _ _ _ _; refine zrk7 ?_)      | (refine id_stn (0 + 3) ?_; refine s_rDeep hlt (by assumption) (by omega) ?_; intro rc _ _ _ _ _ _; refine zrk7 ?_)      | (refine id_stown ?_; first        | (refine id_stag0 ?_; first          | (refine zsR ?_; refine zrk7 ?_)          | (refine zsA ?_; refine zrk7 ?_)) | (refine id_stagg ?_; refine zsT ?_; refine zrk7 ?_)        | (refine zsO ?_; refine zrk7 ?_)))    | refine in_no_l rfl (by first | exact rec_nil | rfl) ?_)  | (refine id_box ?_; refine g_box hlt rfl rfl rfl (by (simp only [List.map_cons,List.map_nil,List.nil_append,List.cons_append,List.append_nil,cells_agg,cells_str,cells_int,cells_bool,cells_list]; rfl)) (by (first | (simp only [List.length_cons,List.length_nil,Nat.reduceAdd,Nat.zero_add]; rfl) | rfl)) ?_; refine zrk7 ?_) | (refine id_call ?_; first    | (refine g_call rfl rfl rfl ?_; first      | (refine id_cl 56 ?_; (first | refine ⟨_,_,det_fault L _ _ _ _,?_⟩ | refine ⟨_,_,det_fault L.toLibD _ _ _ _,?_⟩); refine zrk7 ?_) | (refine id_cl2 90 (.int .i64 0) ?_; (refine c_rqb (cis0 _) hlt (by assumption) ?_ ?_ <;> intro hP <;> obtain ⟨_,_⟩:=hP <;> refine zrk7 ?_)) | (refine id_cl2 90 (.int .i64 1) ?_; (refine c_rqb (cis1 _) hlt (by assumption) ?_ ?_ <;> intro hP <;> obtain ⟨_,_⟩:=hP <;> refine zrk7 ?_)) | (refine id_cl2 90 (.int .i64 2) ?_; (refine c_rqb (cis2 _) hlt (by assumption) ?_ ?_ <;> intro hP <;> obtain ⟨_,_⟩:=hP <;> refine zrk7 ?_))      | (refine id_cl 134 ?_; refine c_rq cpl hlt (by assumption) ?_; intro _ _; refine zrk7 ?_)      | (refine id_cl 136 ?_; (refine c_rcb (ctk _) hlt (by assumption) (by omega) (by omega) ?_ ?_ <;> intro rc rwc hR' _ _ _ _ _ _ hP <;> replace hR:=hR.trans hR' <;> (try replace hRL:=hRL.trans hR') <;> obtain ⟨_,_⟩:=hP <;> refine zrk7 ?_)) | (refine id_cl 140 ?_; (refine c_rcb (cen) hlt (by assumption) (by omega) (by omega) ?_ ?_ <;> intro rc rwc hR' _ _ _ _ _ _ hP <;> replace hR:=hR.trans hR' <;> (try replace hRL:=hRL.trans hR') <;> obtain ⟨_,_⟩:=hP <;> refine zrk7 ?_)) | (refine id_cl 93 ?_; (refine c_rc (cnd _) hlt (by assumption) (by omega) (by omega) ?_; intro _ rc rwc hR' _ _ _ _ _ _ hP; replace hR:=hR.trans hR'; (try replace hRL:=hRL.trans hR'); obtain ⟨_,_⟩:=hP; refine zrk7 ?_)) | (refine id_cl 95 ?_; (refine c_rc (cfl) hlt (by assumption) (by omega) (by omega) ?_; intro _ rc rwc hR' _ _ _ _ _ _ hP; replace hR:=hR.trans hR'; (try replace hRL:=hRL.trans hR'); obtain ⟨_,_⟩:=hP; refine zrk7 ?_))      | (refine c_tx (by assumption) (hp_pos hlt) ?_; intro rwt hRt; replace hR:=hR.trans hRt; refine zrk7 ?_) | (refine c_det (by first | assumption | exact hk1 _ _ | exact hd1 _ | exact hd2 _ | exact hd3 _ | exact hd4 _ | exact hd5 _ | exact hd6 _) ?_; refine zrk7 ?_))    | refine in_no_l rfl (by first | exact rec_nil | rfl) ?_)  | (refine id_l ?_; refine in_no_l rfl (by first | exact rec_nil | rfl) ?_)  | (refine id_nil ?_; refine in_nil (by simp only [keep,List.filterMap_cons,List.filterMap_nil,args0,List.zipIdx_cons,List.zipIdx_nil,List.map_cons,List.map_nil,eput,eget,if_true,if_false,Nat.reduceEqDiff,reduceIte,Option.map_some,Option.map_none]; rfl) ?_)) | (refine at_id ?_; first  | refine at_seq hm ?_  | (refine id_region ?_; first | refine zar hm ?_ | refine at_region hm (List.append_nil _) rfl ?_)  | (refine id_cond ?_; first | refine at_true rfl ?_ | refine at_false rfl ?_ | refine at_ifb rfl (fun hq => ?_) (fun hq => ?_))  | refine at_block ?_  | refine at_skip ?_  | refine at_ret ?_  | refine at_exit ?_) | (refine back_id ?_; first  | refine back_code ?_  | refine back_blk ?_  | refine back_ret_code ?_  | refine back_ret_blk ?_  | refine back_exit_code ?_  | refine back_exit_same ?_  | refine back_exit_other (by omega) ?_  | refine back_nil ?_))); all_goals (refine ob ?_; apply_rules (newGoals:=.nonDependentOnly) only [bx]; exact trivial)) : Q:=h
end Go.Proofs.YtmeakjgbjldkdaaGreat.Ai
namespace Go.Proofs.YtmeakjgbjldkdaaGreat.Ai
open Go
def strsOf : List (List AV) → Option (List Str)
 | [] => some []
 | [.str s] :: rs => match strsOf rs with
  | some l => some (s :: l)
  | none => none
 | _ => none
def sumLen (k : Nat) : List Str → Nat
 | [] => 0
 | s :: l => s.length + k + sumLen k l
def joinP : CallFn → List AV → St → Option (Res × St):=fun _ vs S => match vs with
 | [.list _ _ rows,.str sep] => match strsOf rows with
  | some l => if sumLen sep.length l ≤ 2147483648 ∧ l.length ≤ 2147483648 then some (.ret (.str (joinT sep l)),S) else none
  | none => none
 | _ => none
def cloneP : CallFn → List AV → St → Option (Res × St):=fun _ vs S => match vs with
 | [.list 1 _ (r :: rows)] => match strsOf (r :: rows) with
  | some l => if l.length ≤ 1000000 then some (.ret (.list 1 .dead (r :: rows)),S) else none
  | none => none
 | _ => none
def setC (H : List Blk) (n off : Nat) (v : AV) : List Blk:=match H[n]? with
 | some (.cells cs) => H.set n (.cells (overlay cs off [v]))
 | _ => H
def onceP : CallFn → List AV → St → Option (Res × St):=fun cl vs S => match vs with
 | [.ptr n off,.func 59 [] [.ptr m 0]] => match S.heap[n]? with
  | some (.cells cs) => match cs[off]?,cs[off + 1]? with
   | some (.int .u32 0),some (.int .i32 0) => match cl 59 [.ptr m 0] ⟨setC S.heap n (off + 1) (.int .i32 1),S.rows⟩ with
    | some (.ret (.tup []),S') => match S'.heap[n]? with
     | some (.cells cs') => match cs'[off]?,cs'[off + 1]? with
      | some (.int .u32 0),some (.int .i32 1) => some (.ret (.tup []),⟨setC (setC S'.heap n off (.int .u32 1)) n (off + 1) (.int .i32 0),S'.rows⟩)
      | _,_ => none
     | _ => none
    | _ => none
   | some (.int .u32 1),_ => some (.ret (.tup []),S)
   | _,_ => none
  | _ => none
 | _ => none
def PrA : Prims:=fun n => match n with
 | 54 => some joinP
 | 58 => some onceP
 | 62 => some cloneP
 | _ => none
end Go.Proofs.YtmeakjgbjldkdaaGreat.Ai
namespace Go.Proofs.YtmeakjgbjldkdaaGreat.Ai
open Go
def r156_0 : IC:=.region [] [Qm 0 8 1,Qv 1 9 .add 8 (Qz 1),Qm 2 6 9] [0,1,2,6]
def r156_1 : IC:=.region [] [Qm 0 10 6,Qm 1 11 2,Qb 2 12 .lss 10 11] [0,1,2,6,12]
def r156_2 : IC:=.region [] [Qm 0 15 6,Qm 1 7 15] [0,1,2,6,7]
def r156_3 : IC:=.region [] [Qm 0 16 7,Qm 1 17 1,Qb 2 18 .gtr 16 17,Qm 3 19 18,Qmg 4 20 19 true 0,Qmg 5 21 19 true 7,Qig 6 22 19 true 1 20 21,Qdg 7 23 19 true 22,Qmg 8 24 19 true 0,Qmg 9 25 19 true 7,Qvg 10 26 19 true .sub 25 (Qz 1),Qig 11 27 19 true 1 24 26,Qdg 12 28 19 true 27,Qcg 13 29 19 true 162 [(.tmp 23),(.tmp 28)] [],Qa 14 30 19 29] [0,1,2,6,7,30]
def r156_4 : IC:=.region [] [Qm 0 33 0,Qm 1 34 7,Qm 2 35 0,Qm 3 36 7,Qv 4 37 .sub 36 (Qz 1),Qm 5 38 0,Qm 6 39 7,Qv 7 40 .sub 39 (Qz 1),Qi 8 41 1 38 40,Qd 9 42 41,Qm 10 43 0,Qm 11 44 7,Qi 12 45 1 43 44,Qd 13 46 45,Qi 14 47 1 33 34,Qs 15 1 47 42 [],Qi 16 48 1 35 37,Qs 17 1 48 46 []] [0,1,2,6,7]
def r156_5 : IC:=.region [] [Qm 0 31 7,Qv 1 32 .sub 31 (Qz 1),Qm 2 7 32] [0,1,2,6,7]
def r156_6 : IC:=.region [] [Qm 0 13 6,Qv 1 14 .add 13 (Qz 1),Qm 2 6 14] [0,1,2,6]
noncomputable def i156 : IFn:=⟨3,(.seq r156_0 (.block 0 (.loop [0,1,2,6] (.seq (.seq r156_1 (.cond (.tmp 12) (.skip) (.exit 0))) (.seq (.block 1 (.seq r156_2 (.block 2 (.loop [0,1,2,6,7] (.seq (.seq r156_3 (.cond (.tmp 30) (.skip) (.exit 2))) (.seq (.block 3 r156_4) r156_5)))))) r156_6))))),[]⟩
theorem c156 : chkFn Tryz.prog Tryz.f156 i156 = true:=by kernel_rfl
end Go.Proofs.YtmeakjgbjldkdaaGreat.Ai
namespace Go.Proofs.YtmeakjgbjldkdaaGreat.Ai
open Go
noncomputable def FA : Nat → Option IFn:=fun n => match n with
 | 3 => some i3
 | 6 => some i6
 | 13 => some i13
 | 14 => some i14
 | 15 => some i15
 | 16 => some i16
 | 17 => some i17
 | 18 => some i18
 | 19 => some i19
 | 20 => some i20
 | 21 => some i21
 | 22 => some i22
 | 23 => some i23
 | 25 => some i25
 | 26 => some i26
 | 30 => some i30
 | 33 => some i33
 | 34 => some i34
 | 35 => some i35
 | 36 => some i36
 | 51 => some i51
 | 52 => some i52
 | 53 => some i53
 | 55 => some i55b
 | 56 => some i56
 | 57 => some i57
 | 59 => some i59
 | 60 => some i60
 | 61 => some i61
 | 64 => some ifn64
 | 65 => some i65
 | 66 => some i66
 | 68 => some i68
 | 69 => some i69
 | 89 => some i89
 | 90 => some i90
 | 91 => some i91
 | 92 => some i92
 | 93 => some i93
 | 94 => some i94
 | 95 => some i95
 | 96 => some i96
 | 97 => some i97
 | 100 => some i100
 | 101 => some i101
 | 102 => some i102
 | 103 => some i103
 | 104 => some i104
 | 105 => some i105
 | 106 => some i106
 | 109 => some i109
 | 110 => some i110
 | 111 => some i111
 | 127 => some i127
 | 130 => some i130
 | 131 => some i131
 | 132 => some i132
 | 133 => some i133
 | 134 => some i134
 | 135 => some i135
 | 136 => some i136
 | 137 => some i137
 | 138 => some i138
 | 139 => some i139
 | 140 => some i140
 | 141 => some i141
 | 142 => some i142
 | 143 => some i143
 | 144 => some i144
 | 145 => some i145
 | 146 => some i146
 | 149 => some i149
 | 150 => some i150
 | 151 => some i151
 | 156 => some i156
 | 165 => some i165
 | 166 => some i166
 | 190 => some i190
 | 191 => some i191
 | 192 => some i192
 | 193 => some i193
 | 194 => some i194
 | 195 => some i195
 | 196 => some i196
 | 197 => some i197
 | 198 => some i198
 | 199 => some i199
 | 200 => some i200
 | 201 => some i201
 | 204 => some i204
 | 226 => some i226
 | 227 => some i227
 | 228 => some i228
 | 229 => some i229
 | 243 => some i243
 | 244 => some i244
 | 245 => some i245
 | 253 => some i253
 | _ => none
end Go.Proofs.YtmeakjgbjldkdaaGreat.Ai
namespace Go.Proofs
open Go.Shelf
def Tryz.lays169_ren : Go.Shelf.Ren:=⟨fun | 169 => 87 | n => n,fun | 70 => 153 | 9 => 9 | 0 => 0 | 72 => 156 | 37 => 154 | 127 => 204 | 3 => 3 | 5 => 5 | n => n,fun | n => n⟩
theorem Tryz.lays169 : Go.Proofs.Lays.n169 Tryz.prog Tryz.lays169_ren:={
 mixed:=by kernel_rfl
 f169:=Tryz.func87.trans (congrArg some (by kernel_rfl))
 t0:=Tryz.underlying0
 a0:=Tryz.isAgg0
 z0:=Tryz.sizeOf0
 v0:=Tryz.zeroValue0
 t3:=Tryz.underlying3
 a3:=Tryz.isAgg3
 z3:=Tryz.sizeOf3
 v3:=Tryz.zeroValue3
 t9:=Tryz.underlying9
 a9:=Tryz.isAgg9
 z9:=Tryz.sizeOf9
 v9:=Tryz.zeroValue9
 t37:=Tryz.underlying154
 a37:=Tryz.isAgg154
 z37:=Tryz.sizeOf154
 v37:=Tryz.zeroValue154
 t70:=Tryz.underlying153
 a70:=Tryz.isAgg153
 z70:=Tryz.sizeOf153
 v70:=Tryz.zeroValue153
 t72:=Tryz.underlying156
 a72:=Tryz.isAgg156
 z72:=Tryz.sizeOf156
 v72:=Tryz.zeroValue156
 t127:=Tryz.underlying204
 a127:=Tryz.isAgg204
 z127:=Tryz.sizeOf204
 v127:=Tryz.zeroValue204}
theorem Tryz.Builder_Extra_169 : Builder.Extra Tryz.prog Tryz.lays169_ren:={
 sizeBuilder:=by kernel_rfl
 liesBuilder:=by kernel_rfl
 t5:=Tryz.underlying5
 a5:=Tryz.isAgg5
 z5:=Tryz.sizeOf5
 v5:=Tryz.zeroValue5
 infoByte:=by kernel_rfl
 cellsByte:=by kernel_rfl
 sizeByte:=by kernel_rfl
 neB5:=by decide}
open Go.RowKit in
theorem Tryz.Builder_String (B b : Nat) (l : List UInt8) (w : World) (h : Lib.IsBuilder 156 5 B b (Lib.byteCells l) w) (h0 : l ≠ []) :
  Calls Tryz.prog 87 #[.pointer (some ⟨b,0,none⟩)] w fun e w' => e = .returned (.string ⟨l.toArray⟩) ∧ Below B w w':=Any.Builder_String Tryz.lays169 Tryz.Builder_Extra_169 B b l w h h0
open Go.RowKit in
theorem Tryz.Builder_String_empty (B b : Nat) (w : World) (h : Lib.IsBuilder 156 5 B b [] w) (hBw : B ≤ w.heap.size) :
  Calls Tryz.prog 87 #[.pointer (some ⟨b,0,none⟩)] w fun e w' => e = .returned (.string ⟨#[]⟩) ∧ Below B w w':=Any.Builder_String_empty Tryz.lays169 Tryz.Builder_Extra_169 B b w h hBw
open Go.RowKit in
theorem Tryz.Builder_String_any (B b : Nat) (l : List UInt8) (w : World) (h : Lib.IsBuilder 156 5 B b (Lib.byteCells l) w) (hBw : B ≤ w.heap.size) :
  Calls Tryz.prog 87 #[.pointer (some ⟨b,0,none⟩)] w fun e w' => e = .returned (.string ⟨l.toArray⟩) ∧ Below B w w':=Any.Builder_String_any Tryz.lays169 Tryz.Builder_Extra_169 B b l w h hBw
def Tryz.lays241_ren : Go.Shelf.Ren:=⟨fun | 241 => 148 | 277 => 203 | n => n,fun | 70 => 153 | 3 => 3 | 0 => 0 | 72 => 156 | 37 => 154 | 5 => 5 | n => n,fun | n => n⟩
theorem Tryz.lays241 : Go.Proofs.Lays.n241 Tryz.prog Tryz.lays241_ren:={
 mixed:=by kernel_rfl
 f241:=Tryz.func148.trans (congrArg some (by kernel_rfl))
 f277:=Tryz.func203.trans (congrArg some (by kernel_rfl))
 t0:=Tryz.underlying0
 a0:=Tryz.isAgg0
 z0:=Tryz.sizeOf0
 v0:=Tryz.zeroValue0
 t3:=Tryz.underlying3
 a3:=Tryz.isAgg3
 z3:=Tryz.sizeOf3
 v3:=Tryz.zeroValue3
 t37:=Tryz.underlying154
 a37:=Tryz.isAgg154
 z37:=Tryz.sizeOf154
 v37:=Tryz.zeroValue154
 t70:=Tryz.underlying153
 a70:=Tryz.isAgg153
 z70:=Tryz.sizeOf153
 v70:=Tryz.zeroValue153
 t72:=Tryz.underlying156
 a72:=Tryz.isAgg156
 z72:=Tryz.sizeOf156
 v72:=Tryz.zeroValue156}
theorem Tryz.Builder_Extra_241 : Builder.Extra Tryz.prog Tryz.lays241_ren:={
 sizeBuilder:=by kernel_rfl
 liesBuilder:=by kernel_rfl
 t5:=Tryz.underlying5
 a5:=Tryz.isAgg5
 z5:=Tryz.sizeOf5
 v5:=Tryz.zeroValue5
 infoByte:=by kernel_rfl
 cellsByte:=by kernel_rfl
 sizeByte:=by kernel_rfl
 neB5:=by decide}
open Go.RowKit in
theorem Tryz.Builder_grow_fresh (B b n : Nat) (w : World) (hB : B ≤ b) (hbk : w.heap[b]? = some (.cells #[.pointer (some ⟨b,0,none⟩),.slice none 0 0] 156 (0,0))) (hBw : B ≤ w.heap.size) (hn : n ≤ 281474976710656) :
  Calls Tryz.prog 148 #[.pointer (some ⟨b,0,none⟩),.int .i64 n] w fun e w' => e = .returned (.tuple #[]) ∧ (Lib.BuilderAt 156 5 B b (.pointer (some ⟨b,0,none⟩)) [] w' ∧ Below B w w'):=Any.Builder_grow_fresh Tryz.lays241 Tryz.Builder_Extra_241 B b n w hB hbk hBw hn
def Tryz.lays165_ren : Go.Shelf.Ren:=⟨fun | 165 => 98 | 240 => 147 | 241 => 148 | 276 => 202 | 277 => 203 | n => n,fun | 70 => 153 | 3 => 3 | 0 => 0 | 4 => 4 | 9 => 9 | 20 => 20 | 72 => 156 | 37 => 154 | 164 => 262 | 5 => 5 | n => n,fun | n => n⟩
theorem Tryz.lays165 : Go.Proofs.Lays.n165 Tryz.prog Tryz.lays165_ren:={
 mixed:=by kernel_rfl
 f165:=Tryz.func98.trans (congrArg some (by kernel_rfl))
 f240:=Tryz.func147.trans (congrArg some (by kernel_rfl))
 f241:=Tryz.func148.trans (congrArg some (by kernel_rfl))
 f276:=Tryz.func202.trans (congrArg some (by kernel_rfl))
 f277:=Tryz.func203.trans (congrArg some (by kernel_rfl))
 t0:=Tryz.underlying0
 a0:=Tryz.isAgg0
 z0:=Tryz.sizeOf0
 v0:=Tryz.zeroValue0
 t3:=Tryz.underlying3
 a3:=Tryz.isAgg3
 z3:=Tryz.sizeOf3
 v3:=Tryz.zeroValue3
 t4:=Tryz.underlying4
 a4:=Tryz.isAgg4
 z4:=Tryz.sizeOf4
 v4:=Tryz.zeroValue4
 t9:=Tryz.underlying9
 a9:=Tryz.isAgg9
 z9:=Tryz.sizeOf9
 v9:=Tryz.zeroValue9
 t20:=Tryz.underlying20
 a20:=Tryz.isAgg20
 z20:=Tryz.sizeOf20
 v20:=Tryz.zeroValue20
 t37:=Tryz.underlying154
 a37:=Tryz.isAgg154
 z37:=Tryz.sizeOf154
 v37:=Tryz.zeroValue154
 t70:=Tryz.underlying153
 a70:=Tryz.isAgg153
 z70:=Tryz.sizeOf153
 v70:=Tryz.zeroValue153
 t72:=Tryz.underlying156
 a72:=Tryz.isAgg156
 z72:=Tryz.sizeOf156
 v72:=Tryz.zeroValue156
 t164:=Tryz.underlying262
 a164:=Tryz.isAgg262
 z164:=Tryz.sizeOf262
 v164:=Tryz.zeroValue262}
theorem Tryz.Builder_Extra_165 : Builder.Extra Tryz.prog Tryz.lays165_ren:={
 sizeBuilder:=by kernel_rfl
 liesBuilder:=by kernel_rfl
 t5:=Tryz.underlying5
 a5:=Tryz.isAgg5
 z5:=Tryz.sizeOf5
 v5:=Tryz.zeroValue5
 infoByte:=by kernel_rfl
 cellsByte:=by kernel_rfl
 sizeByte:=by kernel_rfl
 neB5:=by decide}
open Go.RowKit in
theorem Tryz.Builder_Grow_fresh (B b n : Nat) (w : World) (hB : B ≤ b) (hbk : w.heap[b]? = some (.cells #[.pointer none,.slice none 0 0] 156 (0,0))) (hBw : B ≤ w.heap.size) (hn : n ≤ 281474976710656) :
  Calls Tryz.prog 98 #[.pointer (some ⟨b,0,none⟩),.int .i64 n] w fun e w' => e = .returned (.tuple #[]) ∧ (Lib.BuilderAt 156 5 B b (.pointer (some ⟨b,0,none⟩)) [] w' ∧ Below B w w'):=Any.Builder_Grow_fresh Tryz.lays165 Tryz.Builder_Extra_165 B b n w hB hbk hBw hn
def Tryz.lays156_ren : Go.Shelf.Ren:=⟨fun | 156 => 54 | 165 => 98 | 166 => 99 | 169 => 87 | 240 => 147 | 241 => 148 | 276 => 202 | 277 => 203 | n => n,fun | 31 => 29 | 9 => 9 | 3 => 3 | 4 => 4 | 0 => 0 | 20 => 20 | 72 => 156 | 76 => 178 | 70 => 153 | 37 => 154 | 75 => 177 | 127 => 204 | 164 => 262 | 5 => 5 | 80 => 162 | n => n,fun | n => n⟩
theorem Tryz.lays156 : Go.Proofs.Lays.n156 Tryz.prog Tryz.lays156_ren:={
 mixed:=by kernel_rfl
 f156:=Tryz.func54.trans (congrArg some (by kernel_rfl))
 f165:=Tryz.func98.trans (congrArg some (by kernel_rfl))
 f166:=Tryz.func99.trans (congrArg some (by kernel_rfl))
 f169:=Tryz.func87.trans (congrArg some (by kernel_rfl))
 f240:=Tryz.func147.trans (congrArg some (by kernel_rfl))
 f241:=Tryz.func148.trans (congrArg some (by kernel_rfl))
 f276:=Tryz.func202.trans (congrArg some (by kernel_rfl))
 f277:=Tryz.func203.trans (congrArg some (by kernel_rfl))
 t0:=Tryz.underlying0
 a0:=Tryz.isAgg0
 z0:=Tryz.sizeOf0
 v0:=Tryz.zeroValue0
 t3:=Tryz.underlying3
 a3:=Tryz.isAgg3
 z3:=Tryz.sizeOf3
 v3:=Tryz.zeroValue3
 t4:=Tryz.underlying4
 a4:=Tryz.isAgg4
 z4:=Tryz.sizeOf4
 v4:=Tryz.zeroValue4
 t9:=Tryz.underlying9
 a9:=Tryz.isAgg9
 z9:=Tryz.sizeOf9
 v9:=Tryz.zeroValue9
 t20:=Tryz.underlying20
 a20:=Tryz.isAgg20
 z20:=Tryz.sizeOf20
 v20:=Tryz.zeroValue20
 t31:=Tryz.underlying29
 a31:=Tryz.isAgg29
 z31:=Tryz.sizeOf29
 v31:=Tryz.zeroValue29
 t37:=Tryz.underlying154
 a37:=Tryz.isAgg154
 z37:=Tryz.sizeOf154
 v37:=Tryz.zeroValue154
 t70:=Tryz.underlying153
 a70:=Tryz.isAgg153
 z70:=Tryz.sizeOf153
 v70:=Tryz.zeroValue153
 t72:=Tryz.underlying156
 a72:=Tryz.isAgg156
 z72:=Tryz.sizeOf156
 v72:=Tryz.zeroValue156
 t75:=Tryz.underlying177
 a75:=Tryz.isAgg177
 z75:=Tryz.sizeOf177
 v75:=Tryz.zeroValue177
 t76:=Tryz.underlying178
 a76:=Tryz.isAgg178
 z76:=Tryz.sizeOf178
 v76:=Tryz.zeroValue178
 t127:=Tryz.underlying204
 a127:=Tryz.isAgg204
 z127:=Tryz.sizeOf204
 v127:=Tryz.zeroValue204
 t164:=Tryz.underlying262
 a164:=Tryz.isAgg262
 z164:=Tryz.sizeOf262
 v164:=Tryz.zeroValue262}
theorem Tryz.Builder_Extra_156 : Builder.Extra Tryz.prog Tryz.lays156_ren:={
 sizeBuilder:=by kernel_rfl
 liesBuilder:=by kernel_rfl
 t5:=Tryz.underlying5
 a5:=Tryz.isAgg5
 z5:=Tryz.sizeOf5
 v5:=Tryz.zeroValue5
 infoByte:=by kernel_rfl
 cellsByte:=by kernel_rfl
 sizeByte:=by kernel_rfl
 neB5:=by decide}
open Go.RowKit in
theorem Tryz.strings_Join_none (a : Option Addr) (c : Nat) (sep : ByteArray) (w : World) :
  Calls Tryz.prog 54 #[.slice a 0 c,.string sep] w fun e w' => e = .returned (.string ⟨#[]⟩) ∧ w' = w:=Any.strings_Join_none Tryz.lays156 Tryz.Builder_Extra_156 a c sep w
open Go.RowKit in
theorem Tryz.strings_Join (bk o c : Nat) (xs : List ByteArray) (sep : ByteArray) (w : World) (hcells : ∀ (j : Nat) x,xs[j]? = some x → w.cell? ⟨bk,o + j,none⟩ = some (.string x)) (hbk : bk < w.heap.size) (hN : xs.length ≤ 140737488355328) (hcap : xs.length ≤ c) (hlen : (Lib.join (xs.map (·.data.toList)) sep.data.toList).length ≤ 140737488355328) :
  Calls Tryz.prog 54 #[.slice (some ⟨bk,o,none⟩) xs.length c,.string sep] w fun e w' => e = .returned (.string ⟨(Lib.join (xs.map (·.data.toList)) sep.data.toList).toArray⟩) ∧ Below w.heap.size w w':=Any.strings_Join Tryz.lays156 Tryz.Builder_Extra_156 bk o c xs sep w hcells hbk hN hcap hlen
def Tryz.lays213_ren : Go.Shelf.Ren:=⟨fun | 213 => 114 | 265 => 175 | n => n,fun | 9 => 9 | 3 => 3 | n => n,fun | n => n⟩
theorem Tryz.lays213 : Go.Proofs.Lays.n213 Tryz.prog Tryz.lays213_ren:={
 mixed:=by kernel_rfl
 f213:=Tryz.func114.trans (congrArg some (by kernel_rfl))
 f265:=Tryz.func175.trans (congrArg some (by kernel_rfl))
 t3:=Tryz.underlying3
 a3:=Tryz.isAgg3
 z3:=Tryz.sizeOf3
 v3:=Tryz.zeroValue3
 t9:=Tryz.underlying9
 a9:=Tryz.isAgg9
 z9:=Tryz.sizeOf9
 v9:=Tryz.zeroValue9}
open Go.RowKit in
theorem Tryz.bytealg_CompareString (a b : ByteArray) (w : World) :
  Calls Tryz.prog 114 #[.string a,.string b] w fun e w' => e = .returned (.int .i64 (Lib.compareBytes a.data.toList b.data.toList)) ∧ w' = w:=Any.bytealg_CompareString Tryz.lays213 a b w
def Tryz.lays106_ren : Go.Shelf.Ren:=⟨fun | 106 => 74 | 213 => 114 | 265 => 175 | n => n,fun | 9 => 9 | 3 => 3 | n => n,fun | n => n⟩
theorem Tryz.lays106 : Go.Proofs.Lays.n106 Tryz.prog Tryz.lays106_ren:={
 mixed:=by kernel_rfl
 f106:=Tryz.func74.trans (congrArg some (by kernel_rfl))
 f213:=Tryz.func114.trans (congrArg some (by kernel_rfl))
 f265:=Tryz.func175.trans (congrArg some (by kernel_rfl))
 t3:=Tryz.underlying3
 a3:=Tryz.isAgg3
 z3:=Tryz.sizeOf3
 v3:=Tryz.zeroValue3
 t9:=Tryz.underlying9
 a9:=Tryz.isAgg9
 z9:=Tryz.sizeOf9
 v9:=Tryz.zeroValue9}
open Go.RowKit in
theorem Tryz.strings_Compare (a b : ByteArray) (w : World) :
  Calls Tryz.prog 74 #[.string a,.string b] w fun e w' => e = .returned (.int .i64 (Lib.compareBytes a.data.toList b.data.toList)) ∧ w' = w:=Any.strings_Compare Tryz.lays106 a b w
def Tryz.lays190_ren : Go.Shelf.Ren:=⟨fun | 190 => 60 | 125 => 110 | 258 => 109 | 128 => 165 | 129 => 166 | 302 => 156 | 303 => 157 | 304 => 158 | 305 => 159 | 306 => 160 | 307 => 161 | 308 => 162 | 309 => 163 | 310 => 164 | 333 => 209 | 329 => 210 | 330 => 211 | 334 => 212 | 335 => 213 | 336 => 214 | 344 => 238 | n => n,fun | 31 => 29 | 9 => 9 | 3 => 3 | 46 => 186 | 0 => 0 | 51 => 114 | 53 => 234 | 4 => 4 | 183 => 227 | 182 => 226 | 131 => 108 | 5 => 5 | 218 => 269 | 222 => 273 | 228 => 286 | 229 => 53 | n => n,fun | n => n⟩
theorem Tryz.lays190 : Go.Proofs.Lays.n190 Tryz.prog Tryz.lays190_ren:={
 mixed:=by kernel_rfl
 f125:=Tryz.func110.trans (congrArg some (by kernel_rfl))
 f128:=Tryz.func165.trans (congrArg some (by kernel_rfl))
 f129:=Tryz.func166.trans (congrArg some (by kernel_rfl))
 f190:=Tryz.func60.trans (congrArg some (by kernel_rfl))
 f258:=Tryz.func109.trans (congrArg some (by kernel_rfl))
 f302:=Tryz.func156.trans (congrArg some (by kernel_rfl))
 f303:=Tryz.func157.trans (congrArg some (by kernel_rfl))
 f304:=Tryz.func158.trans (congrArg some (by kernel_rfl))
 f305:=Tryz.func159.trans (congrArg some (by kernel_rfl))
 f306:=Tryz.func160.trans (congrArg some (by kernel_rfl))
 f307:=Tryz.func161.trans (congrArg some (by kernel_rfl))
 f308:=Tryz.func162.trans (congrArg some (by kernel_rfl))
 f309:=Tryz.func163.trans (congrArg some (by kernel_rfl))
 f310:=Tryz.func164.trans (congrArg some (by kernel_rfl))
 f329:=Tryz.func210.trans (congrArg some (by kernel_rfl))
 f330:=Tryz.func211.trans (congrArg some (by kernel_rfl))
 f333:=Tryz.func209.trans (congrArg some (by kernel_rfl))
 f334:=Tryz.func212.trans (congrArg some (by kernel_rfl))
 f335:=Tryz.func213.trans (congrArg some (by kernel_rfl))
 f336:=Tryz.func214.trans (congrArg some (by kernel_rfl))
 f344:=Tryz.func238.trans (congrArg some (by kernel_rfl))
 t0:=Tryz.underlying0
 a0:=Tryz.isAgg0
 z0:=Tryz.sizeOf0
 v0:=Tryz.zeroValue0
 t3:=Tryz.underlying3
 a3:=Tryz.isAgg3
 z3:=Tryz.sizeOf3
 v3:=Tryz.zeroValue3
 t4:=Tryz.underlying4
 a4:=Tryz.isAgg4
 z4:=Tryz.sizeOf4
 v4:=Tryz.zeroValue4
 t5:=Tryz.underlying5
 a5:=Tryz.isAgg5
 z5:=Tryz.sizeOf5
 v5:=Tryz.zeroValue5
 t9:=Tryz.underlying9
 a9:=Tryz.isAgg9
 z9:=Tryz.sizeOf9
 v9:=Tryz.zeroValue9
 t31:=Tryz.underlying29
 a31:=Tryz.isAgg29
 z31:=Tryz.sizeOf29
 v31:=Tryz.zeroValue29
 t46:=Tryz.underlying186
 a46:=Tryz.isAgg186
 z46:=Tryz.sizeOf186
 v46:=Tryz.zeroValue186
 t51:=Tryz.underlying114
 a51:=Tryz.isAgg114
 z51:=Tryz.sizeOf114
 v51:=Tryz.zeroValue114
 t53:=Tryz.underlying234
 a53:=Tryz.isAgg234
 z53:=Tryz.sizeOf234
 v53:=Tryz.zeroValue234
 t131:=Tryz.underlying108
 a131:=Tryz.isAgg108
 z131:=Tryz.sizeOf108
 v131:=Tryz.zeroValue108
 t182:=Tryz.underlying226
 a182:=Tryz.isAgg226
 z182:=Tryz.sizeOf226
 v182:=Tryz.zeroValue226
 t183:=Tryz.underlying227
 a183:=Tryz.isAgg227
 z183:=Tryz.sizeOf227
 v183:=Tryz.zeroValue227
 t218:=Tryz.underlying269
 a218:=Tryz.isAgg269
 z218:=Tryz.sizeOf269
 v218:=Tryz.zeroValue269
 t222:=Tryz.underlying273
 a222:=Tryz.isAgg273
 z222:=Tryz.sizeOf273
 v222:=Tryz.zeroValue273
 t228:=Tryz.underlying286
 a228:=Tryz.isAgg286
 z228:=Tryz.sizeOf286
 v228:=Tryz.zeroValue286
 t229:=Tryz.underlying53
 a229:=Tryz.isAgg53
 z229:=Tryz.sizeOf53
 v229:=Tryz.zeroValue53}
open Go.Sort Go.RowKit in
theorem Tryz.slices_Sort_string (blk off cap : Nat) (ss : List (List UInt8)) (w : World) (hH : Holds encStr w blk off ss.toArray) (hblk : blk < w.heap.size) (hsz : ss.length < 4611686018427387904) :
  Calls Tryz.prog 60 #[.slice (some ⟨blk,off,none⟩) ss.length cap] w fun e w' =>
   e = .returned (.tuple #[]) ∧ ∃ n os,w' = grow (putRow encStr (Sort.ahead w n) blk off (ss.mergeSort fun x y => decide (x ≤ y)).toArray) os:=Any.slices_Sort_string Tryz.lays190 blk off cap ss w hH hblk hsz
def Tryz.laysNm216_ren : Go.Shelf.Ren:=⟨fun | 16 => 62 | n => n,fun | 24 => 29 | 9 => 9 | 4 => 4 | n => n,fun | n => n⟩
theorem Tryz.laysNm216 : Go.Proofs.Lays2.n16 Tryz.prog Tryz.laysNm216_ren:={
 mixed:=by kernel_rfl
 f16:=Tryz.func62.trans (congrArg some (by kernel_rfl))
 t4:=Tryz.underlying4
 a4:=Tryz.isAgg4
 z4:=Tryz.sizeOf4
 v4:=Tryz.zeroValue4
 t9:=Tryz.underlying9
 a9:=Tryz.isAgg9
 z9:=Tryz.sizeOf9
 v9:=Tryz.zeroValue9
 t24:=Tryz.underlying29
 a24:=Tryz.isAgg29
 z24:=Tryz.sizeOf29
 v24:=Tryz.zeroValue29
 i9:=by kernel_rfl}
open Go.RowKit Go.Lib in
theorem Tryz.slices_Clone_string (b off n c : Nat) (zs : List ByteArray) (w : World) (hz : n ≤ zs.length) (hbig : n * 16 ≤ 140737488355328) (hc : ∀ j,j < zs.length → w.cell? ⟨b,off + j,none⟩ = some (.string (zs.getD j ByteArray.empty))) :
  Calls Tryz.prog 62 #[.slice (some ⟨b,off,none⟩) n c] w fun e w' => ∃ v',e = .returned v' ∧ w'.ownsRow w.heap.size 9 1 v' n ((zs.take n).map (Value.string)) ∧ v' ≠ .slice none 0 0 ∧ Below w.heap.size w w':=Any.slices_Clone_string Tryz.laysNm216 b off n c zs w hz hbig hc
open Go.RowKit Go.Lib in
theorem Tryz.slices_Clone_string_nil (n c : Nat) (w : World) :
  Calls Tryz.prog 62 #[.slice none n c] w fun e w' => e = .returned (.slice none 0 0) ∧ w' = w:=Any.slices_Clone_string_nil Tryz.laysNm216 n c w
open Go.RowKit Go.Lib in
theorem Tryz.slices_Clone_string_zero (a : Addr) (c : Nat) (w : World) :
  Calls Tryz.prog 62 #[.slice (some a) 0 c] w fun e w' => ∃ v',e = .returned v' ∧ w'.ownsRow w.heap.size 9 1 v' 0 [] ∧ v' ≠ .slice none 0 0 ∧ Below w.heap.size w w':=Any.slices_Clone_string_zero Tryz.laysNm216 a c w
def Tryz.lays194_ren : Go.Shelf.Ren:=⟨fun | 194 => 61 | n => n,fun | 31 => 29 | 9 => 9 | 3 => 3 | 4 => 4 | 0 => 0 | n => n,fun | n => n⟩
theorem Tryz.lays194 : Go.Proofs.Lays.n194 Tryz.prog Tryz.lays194_ren:={
 mixed:=by kernel_rfl
 f194:=Tryz.func61.trans (congrArg some (by kernel_rfl))
 t0:=Tryz.underlying0
 a0:=Tryz.isAgg0
 z0:=Tryz.sizeOf0
 v0:=Tryz.zeroValue0
 t3:=Tryz.underlying3
 a3:=Tryz.isAgg3
 z3:=Tryz.sizeOf3
 v3:=Tryz.zeroValue3
 t4:=Tryz.underlying4
 a4:=Tryz.isAgg4
 z4:=Tryz.sizeOf4
 v4:=Tryz.zeroValue4
 t9:=Tryz.underlying9
 a9:=Tryz.isAgg9
 z9:=Tryz.sizeOf9
 v9:=Tryz.zeroValue9
 t31:=Tryz.underlying29
 a31:=Tryz.isAgg29
 z31:=Tryz.sizeOf29
 v31:=Tryz.zeroValue29}
open Go.RowKit Go.Lib Go.Sort in
theorem Tryz.slices_Compact_string_arr (blk off cap : Nat) (d : Array (List UInt8)) (w : World) (hH : Holds encStr w blk off d) (hsz : d.size ≤ 9223372036854775807) (hcap : d.size ≤ cap) :
  Calls Tryz.prog 61 #[.slice (some ⟨blk,off,none⟩) d.size cap] w fun e w' => e = .returned (.slice (some ⟨blk,off,none⟩) (compactUpTo d d.size).length cap) ∧ ∃ q,w' = putRow encStr (Sort.ahead w q) blk off (compactUpTo d d.size ++ List.replicate (d.size - (compactUpTo d d.size).length) []).toArray:=Any.slices_Compact_string_arr Tryz.lays194 blk off cap d w hH hsz hcap
open Go.RowKit Go.Lib Go.Sort in
theorem Tryz.slices_Compact_string (blk off cap : Nat) (zs : List (List UInt8)) (w : World) (hH : Holds encStr w blk off zs.toArray) (hsz : zs.length ≤ 9223372036854775807) (hcap : zs.length ≤ cap) :
  Calls Tryz.prog 61 #[.slice (some ⟨blk,off,none⟩) zs.length cap] w fun e w' => e = .returned (.slice (some ⟨blk,off,none⟩) (Lib.compact zs).length cap) ∧ ∃ q,w' = putRow encStr (Sort.ahead w q) blk off (Lib.compact zs ++ List.replicate (zs.length - (Lib.compact zs).length) []).toArray:=Any.slices_Compact_string Tryz.lays194 blk off cap zs w hH hsz hcap
open Go.RowKit Go.Lib Go.Sort in
theorem Tryz.slices_Compact_string_empty (a : Option Addr) (cap : Nat) (w : World) :
  Calls Tryz.prog 61 #[.slice a 0 cap] w fun e w' => e = .returned (.slice a 0 cap) ∧ w' = w:=Any.slices_Compact_string_empty Tryz.lays194 a cap w
open Go.RowKit Go.Lib Go.Sort in
theorem Tryz.slices_Compact_string_cells (b off n c : Nat) (Sx : Nat → ByteArray) (w : World) (hbig : n ≤ 9223372036854775807) (hcap : n ≤ c) (hc : ∀ i,i < n → w.cell? ⟨b,off + i,none⟩ = some (.string (Sx i))) (hf : ∀ j,j < n → w.frozen? ⟨b,off + j,none⟩ = false) :
  Calls Tryz.prog 61 #[.slice (some ⟨b,off,none⟩) n c] w fun e w' => e = .returned (.slice (some ⟨b,off,none⟩) (Lib.compact (Lib.strsOf Sx n)).length c) ∧ ∃ q,w' = (w.drewN q).setCells b off ((Lib.compact (Lib.strsOf Sx n) ++ List.replicate (n - (Lib.compact (Lib.strsOf Sx n)).length) []).map encStr):=Any.slices_Compact_string_cells Tryz.lays194 b off n c Sx w hbig hcap hc hf
open Go.RowKit Go.Sort in
theorem Tryz.slices_Sort_string_none (p : Option Addr) (cap : Nat) (w : World) :
  Calls Tryz.prog 60 #[.slice p 0 cap] w fun e w' => e = .returned (.tuple #[]) ∧ w' = w:=Any.slices_Sort_string_none Tryz.lays190 p cap w
end Go.Proofs
namespace Go.Proofs.YtmeakjgbjldkdaaGreat.Ai
open Go
theorem rel_below {K : Ghost} {S : St} {w w' : World} (R : Rel K S w) (h : RowKit.Below w.heap.size w w') : Rel K S w' ∧ ∀ X,Step K X w K w':=by
 have hb : ∀ B b,w.heap[B]? = some b → w'.heap[B]? = some b:=fun B b hB => by
  rw [h.block B (Array.getElem?_eq_some_iff.1 hB).1]
  exact hB
 refine ⟨⟨R.dom,R.inj,R.sep,fun n B cs h1 h2 => ?_,fun n B es h1 h2 => ?_,fun B l h1 => ?_,fun B b E sz size h1 => ?_⟩,fun X => ⟨Ext.refl K,h.os,h.tape,h.output,h.size,fun B hB _ _ => h.block B hB,fun B _ h1 h2 => ⟨h1,h2⟩,fun _ _ h => h,fun _ x h => .inl ⟨x,h⟩⟩⟩
 ·obtain ⟨vs,t,e1,e2⟩:=R.cells n B cs h1 h2
  exact ⟨vs,t,hb _ _ e1,e2⟩
 ·obtain ⟨vs,t,e1,e2⟩:=R.maps n B es h1 h2
  exact ⟨vs,t,hb _ _ e1,e2⟩
 ·obtain ⟨vs,t,e1,e2⟩:=R.rows B l h1
  exact ⟨vs,t,hb _ _ e1,e2⟩
 ·obtain ⟨l,e0,⟨vs,t,e1,e2⟩,e3⟩:=R.grow B b E sz size h1
  exact ⟨l,e0,⟨vs,t,hb _ _ e1,e2⟩,e3⟩
theorem joinT_eq (sep : Str) : ∀ l : List Str,Lib.join l sep = joinT sep l:=by
 intro l
 induction l with
 | nil => rfl
 | cons x l ih =>
  cases l with
  | nil => simp [Lib.join_one,joinT]
  | cons y l =>
   rw [Lib.join_cons] at ih ⊢
   simp only [joinT,← ih]
   simp [Lib.joinTail]
theorem strs_vals {K : Ghost} : ∀ {rows : List (List AV)} {l : List Str} {vs : List Value},strsOf rows = some l → RepLL K rows vs → vs = l.map (fun s => Value.string ⟨s.toArray⟩) ∧ rows.length = l.length:=by
 intro rows
 induction rows with
 | nil =>
  intro l vs h h2
  simp only [strsOf,Option.some.injEq] at h
  subst h
  simp only [RepLL] at h2
  subst h2
  exact ⟨rfl,rfl⟩
 | cons r rows ih =>
  intro l vs h h2
  unfold strsOf at h
  split at h
  ·simp at *
  ·rename_i s rs heq
   injection heq with e1 e2
   subst e1 e2
   split at h
   ·rename_i l' hl'
    simp only [Option.some.injEq] at h
    subst h
    simp only [RepLL,RepL,Rep] at h2
    obtain ⟨u,us,rfl,⟨v,vs',rfl,-,rfl,rfl⟩,h3⟩:=h2
    obtain ⟨e1,e2⟩:=ih hl' h3
    exact ⟨by rw [e1]; rfl,by simp [e2]⟩
   ·simp at h
  ·simp at h
theorem sumLen_join (sep : Str) : ∀ l : List Str,(joinT sep l).length ≤ sumLen sep.length l:=by
 intro l
 induction l with
 | nil => simp [joinT]
 | cons x l ih =>
  cases l with
  | nil => simp [joinT,sumLen]
  | cons y l =>
   simp only [joinT,List.length_append,sumLen] at ih ⊢
   omega
theorem enter54 (us : Array Value) (w : World) : (callFunc 54 us).run Tryz.prog w = .ok (.enter 54 us) w:=by
 have hf:=Tryz.func54
 have hb : Tryz.f54.body.isSome = true:=by kernel_rfl
 have h2 : (Tryz.f54.name != "runtime.NumGoroutine") = true:=by kernel_rfl
 obtain ⟨c,hc⟩:=Option.isSome_iff_exists.1 hb
 have h3 : ¬Tryz.f54.name = "runtime.NumGoroutine":=by simpa using h2
 simp [callFunc,hf,h3,hc]
theorem join_sim : PrimSim Tryz.prog 54 joinP:=by
 intro cl hcl vs S r S' hp K w us R hI ha
 unfold joinP at hp
 split at hp
 ·rename_i sz tag rows sep
  split at hp
  ·rename_i l hl
   split at hp
   ·rename_i hsz
    simp only [Option.some.injEq,Prod.mk.injEq] at hp
    obtain ⟨rfl,rfl⟩:=hp
    simp only [RepT,Rep] at ha
    obtain ⟨v1,us1,rfl,⟨base,cap,rfl,hcap,-,hb⟩,v2,us2,rfl,rfl,rfl⟩:=ha
    refine .inl ⟨enter54 _ _,?_⟩
    have hlj:=sumLen_join sep l
    rcases hb with ⟨rfl,rfl,rfl⟩ | ⟨B,o,vs,rfl,hfix,hrep,-⟩
    ·simp only [strsOf,Option.some.injEq] at hl
     subst hl
     refine (Tryz.strings_Join_none none 0 ⟨sep.toArray⟩ w).mono ?_
     rintro e w' ⟨rfl,rfl⟩
     exact ⟨K,R,Step.refl K _ _,keeps_refl _ _,_,rfl,by simp [Rep,joinT]⟩
    ·obtain ⟨hvs,hlen⟩:=strs_vals hl hrep
     subst hvs
     have hfix0:=hfix
     obtain ⟨lg,hg,-⟩:=hfix
     obtain ⟨va,t,hva,-⟩:=R.rows B lg hg
     have hBs : B < w.heap.size:=(Array.getElem?_eq_some_iff.1 hva).1
     have hdl : ((l.map fun s => (⟨s.toArray⟩ : ByteArray)).map (·.data.toList)) = l:=by
      rw [List.map_map]
      conv => rhs; rw [← List.map_id l]
      exact List.map_congr_left fun s _ => rfl
     have hJ:=Tryz.strings_Join B o cap (l.map fun s => (⟨s.toArray⟩ : ByteArray)) ⟨sep.toArray⟩ w (fun j x hx => by
      rw [List.getElem?_map] at hx
      cases hj : l[j]? with
      | none => rw [hj] at hx; simp at hx
      | some s =>
       rw [hj] at hx
       simp only [Option.map_some,Option.some.injEq] at hx
       subst hx
       exact R.fix_cell hfix0 j _ (by rw [List.getElem?_map,hj]; rfl)) hBs (by rw [List.length_map]; omega) (by rw [List.length_map]; omega) (by
      rw [hdl,joinT_eq]
      exact Nat.le_trans hlj (by omega))
     rw [List.length_map,← hlen] at hJ
     refine hJ.mono ?_
     rintro e w' ⟨rfl,hbel⟩
     obtain ⟨R',hst⟩:=rel_below R hbel
     refine ⟨K,R',hst _,keeps_refl _ _,_,rfl,?_⟩
     simp only [Rep]
     rw [hdl,joinT_eq]
   ·simp at hp
  ·simp at hp
 ·simp at hp
end Go.Proofs.YtmeakjgbjldkdaaGreat.Ai
namespace Go.Proofs.YtmeakjgbjldkdaaGreat.Ai
open Go
theorem m_lt {K : Ghost} {S : St} {w : World} (R : Rel K S w) {n B : Nat} (h : K.m n = some B) : B < w.heap.size:=by
 have hn:=R.dom n B h
 obtain ⟨b,hb⟩ : ∃ b,S.heap[n]? = some b:=⟨_,List.getElem?_eq_getElem hn⟩
 cases b with
 | cells cs =>
  obtain ⟨vs,t,e1,-⟩:=R.cells n B cs h hb
  exact (Array.getElem?_eq_some_iff.1 e1).1
 | map es =>
  obtain ⟨vs,t,e1,-⟩:=R.maps n B es h hb
  exact (Array.getElem?_eq_some_iff.1 e1).1
theorem g_lt {K : Ghost} {S : St} {w : World} (R : Rel K S w) {B : Nat} {l : List Value} (h : K.g B = some l) : B < w.heap.size:=by
 obtain ⟨vs,t,e1,-⟩:=R.rows B l h
 exact (Array.getElem?_eq_some_iff.1 e1).1
def addG (K : Ghost) (g : Nat) (l : List Value) : Ghost:={K with g:=fun B => if B = g then some l else K.g B}
theorem rel_addG {K : Ghost} {S : St} {w w' : World} (R : Rel K S w) (h : RowKit.Below w.heap.size w w') {g : Nat} {l : List Value} {cur : Array Value} {t : TypeId} (hg : w.heap.size ≤ g) (hc : w'.heap[g]? = some (.cells cur t (0,0))) (hl : cur.toList.take l.length = l) :
  Rel (addG K g l) S w' ∧ ∀ X,Step K X w (addG K g l) w':=by
 obtain ⟨R',hst⟩:=rel_below R h
 have hne : ∀ B lb,K.g B = some lb → B ≠ g:=fun B lb hB e => by
  have:=g_lt R hB
  omega
 have hnm : ∀ n B,K.m n = some B → B ≠ g:=fun n B hB e => by
  have:=m_lt R hB
  omega
 have hext : Ext K (addG K g l):=by
  refine ⟨fun _ _ h => h,fun B lb hB => ⟨[],?_⟩,fun B b E sz size hB => ⟨E,hB,Nat.le_refl _,fun l1 l2 e1 e2 => ?_⟩⟩
  ·show (if B = g then some l else K.g B) = some (lb ++ [])
   rw [if_neg (hne B lb hB),List.append_nil]
   exact hB
  ·change (if B = g then some l else K.g B) = some l2 at e2
   rw [if_neg (hne B l1 e1),e1] at e2
   simp only [Option.some.injEq] at e2
   subst e2
   simp
 refine ⟨⟨R'.dom,R'.inj,fun n B hB => ?_,fun n B cs h1 h2 => ?_,fun n B es h1 h2 => ?_,fun B lb hB => ?_,fun B b E sz size hB => ?_⟩,fun X => ⟨hext,h.os,h.tape,h.output,h.size,fun B hB _ _ => h.block B hB,fun B hB h1 h2 => ⟨h1,?_⟩,fun _ _ h => h,fun _ x h => .inl ⟨x,h⟩⟩⟩
 ·show (if B = g then some l else K.g B) = none
  rw [if_neg (hnm n B hB)]
  exact R'.sep n B hB
 ·obtain ⟨vs,t,e1,e2⟩:=R'.cells n B cs h1 h2
  exact ⟨vs,t,e1,e2.ext hext _ _⟩
 ·obtain ⟨vs,t,e1,e2⟩:=R'.maps n B es h1 h2
  exact ⟨vs,t,e1,e2.ext hext⟩
 ·change (if B = g then some l else K.g B) = some lb at hB
  split at hB
  ·rename_i e
   subst e
   simp only [Option.some.injEq] at hB
   subst hB
   exact ⟨cur,t,hc,hl⟩
  ·exact R'.rows B lb hB
 ·obtain ⟨l0,e1,e2,e3⟩:=R'.grow B b E sz size hB
  refine ⟨l0,?_,e2,e3⟩
  show (if B = g then some l else K.g B) = some l0
  rw [if_neg (hne B l0 e1)]
  exact e1
 ·show (if B = g then some l else K.g B) = none
  rw [if_neg (by omega)]
  exact h2
theorem vals_strs {K : Ghost} : ∀ {rows : List (List AV)} {l : List Str},strsOf rows = some l → RepLL K rows (l.map fun s => Value.string ⟨s.toArray⟩):=by
 intro rows
 induction rows with
 | nil =>
  intro l h
  simp only [strsOf,Option.some.injEq] at h
  subst h
  simp [RepLL]
 | cons r rows ih =>
  intro l h
  unfold strsOf at h
  split at h
  ·simp at *
  ·rename_i s rs heq
   injection heq with e1 e2
   subst e1 e2
   split at h
   ·rename_i l' hl'
    simp only [Option.some.injEq] at h
    subst h
    simp only [RepLL,RepL,Rep,List.map_cons]
    exact ⟨[_],_,rfl,⟨_,_,rfl,rfl,rfl,rfl⟩,ih hl'⟩
   ·simp at h
  ·simp at h
theorem enter62 (us : Array Value) (w : World) : (callFunc 62 us).run Tryz.prog w = .ok (.enter 62 us) w:=by
 have hf:=Tryz.func62
 have hb : Tryz.f62.body.isSome = true:=by kernel_rfl
 have h2 : (Tryz.f62.name != "runtime.NumGoroutine") = true:=by kernel_rfl
 obtain ⟨c,hc⟩:=Option.isSome_iff_exists.1 hb
 have h3 : ¬Tryz.f62.name = "runtime.NumGoroutine":=by simpa using h2
 simp [callFunc,hf,h3,hc]
theorem clone_sim : PrimSim Tryz.prog 62 cloneP:=by
 intro cl hcl vs S r S' hp K w us R hI ha
 unfold cloneP at hp
 split at hp
 ·rename_i tag r0 rows
  split at hp
  ·rename_i l hl
   split at hp
   ·rename_i hsz
    simp only [Option.some.injEq,Prod.mk.injEq] at hp
    obtain ⟨rfl,rfl⟩:=hp
    simp only [RepT,Rep] at ha
    obtain ⟨v1,us1,rfl,⟨base,cap,rfl,hcap,hrw,hb⟩,rfl⟩:=ha
    refine .inl ⟨enter62 _ _,?_⟩
    rcases hb with ⟨rfl,h0,rfl⟩ | ⟨B,o,vs,rfl,hfix,hrep,-⟩
    ·simp at h0
    ·obtain ⟨hvs,hlen⟩:=strs_vals hl hrep
     subst hvs
     have hC:=Tryz.slices_Clone_string B o l.length cap (l.map fun s => (⟨s.toArray⟩ : ByteArray)) w (by rw [List.length_map]; exact Nat.le_refl _) (by omega) (fun j hj => by
      rw [List.length_map] at hj
      refine R.fix_cell hfix j _ ?_
      rw [List.getElem?_map,List.getElem?_eq_getElem hj]
      simp only [Option.map_some,List.getD_eq_getElem?_getD,List.getElem?_map,List.getElem?_eq_getElem hj,Option.getD_some])
     rw [← hlen] at hC
     refine hC.mono ?_
     rintro e w' ⟨v',rfl,⟨hxl,hown⟩,hnn,hbel⟩
     rcases hown with ⟨rfl,-⟩ | ⟨g,cap',cur,rfl,hge,hgc,hcap',-,hcs,htk⟩
     ·exact absurd rfl hnn
     ·have hx : (List.take (r0 :: rows).length (l.map fun s => (⟨s.toArray⟩ : ByteArray))).map Value.string = l.map fun s => Value.string ⟨s.toArray⟩:=by
       rw [hlen,← List.length_map (f:=fun s : Str => (⟨s.toArray⟩ : ByteArray)),List.take_length,List.map_map]
       rfl
      rw [hx] at htk hxl
      obtain ⟨R',hst⟩:=rel_addG R hbel hge hgc (l:=l.map fun s => Value.string ⟨s.toArray⟩) (by rw [List.length_map,← hlen]; simpa using htk)
      refine ⟨_,R',hst _,keeps_refl _ _,_,rfl,?_⟩
      simp only [Rep]
      refine ⟨_,cap',rfl,hcap',hrw,.inr ⟨g,0,_,rfl,⟨l.map fun s => Value.string ⟨s.toArray⟩,?_,?_⟩,vals_strs hl,trivial⟩⟩
      ·show (if g = g then some _ else K.g g) = some _
       rw [if_pos rfl]
      ·rw [List.drop_zero,List.take_length]
   ·simp at hp
  ·simp at hp
 ·simp at hp
end Go.Proofs.YtmeakjgbjldkdaaGreat.Ai
namespace Go.Proofs.YtmeakjgbjldkdaaGreat.Ai
open Go
def leB (s x : List UInt8) : Bool:=Op.bytesLess s x || (s == x)
def insB (s : List UInt8) : List (List UInt8) → List (List UInt8)
 | [] => [s]
 | x :: l => if leB s x = true then s :: x :: l else x :: insB s l
def sortB : List (List UInt8) → List (List UInt8)
 | [] => []
 | s :: l => insB s (sortB l)
def dedP (p : List UInt8) : List (List UInt8) → List (List UInt8)
 | [] => []
 | x :: l => if x = p then dedP p l else x :: dedP x l
def dedB : List (List UInt8) → List (List UInt8)
 | [] => []
 | x :: l => x :: dedP x l
theorem leB_eq (x y : List UInt8) : leB x y = decide (x ≤ y):=by
 unfold leB
 rw [Go.Proofs.bytesLess_eq]
 by_cases h : x ≤ y
 ·rw [decide_eq_true h]
  by_cases h2 : x < y
  ·simp [h2]
  ·have : x = y:=List.le_antisymm h h2
   simp [this]
 ·rw [decide_eq_false h]
  have h3 : y < x:=Classical.not_not.1 h
  have h2 : ¬ x < y:=fun h2 => h (Std.le_of_lt h2)
  have h4 : x ≠ y:=fun e => h (e ▸ Std.le_refl x)
  simp [h2,h4]
theorem insB_perm (s : List UInt8) : ∀ l,(insB s l).Perm (s :: l)
 | [] => List.Perm.refl _
 | x :: l => by
  unfold insB
  split
  ·exact List.Perm.refl _
  ·exact ((insB_perm s l).cons x).trans (List.Perm.swap s x l)
theorem sortB_perm : ∀ l,(sortB l).Perm l
 | [] => List.Perm.refl _
 | s :: l => (insB_perm s (sortB l)).trans ((sortB_perm l).cons s)
theorem insB_sorted (s : List UInt8) : ∀ {l : List (List UInt8)},l.Pairwise (fun a b => a ≤ b) → (insB s l).Pairwise (fun a b => a ≤ b)
 | [],_ => by simp [insB]
 | x :: l,h => by
  unfold insB
  have h':=List.pairwise_cons.1 h
  split
  ·rename_i hle
   rw [leB_eq,decide_eq_true_eq] at hle
   refine List.pairwise_cons.2 ⟨fun y hy => ?_,h⟩
   rcases List.mem_cons.1 hy with rfl | hy
   ·exact hle
   ·exact List.le_trans hle (h'.1 y hy)
  ·rename_i hle
   rw [leB_eq,decide_eq_true_eq] at hle
   have hxs : x ≤ s:=(List.le_total s x).resolve_left hle
   refine List.pairwise_cons.2 ⟨fun y hy => ?_,insB_sorted s h'.2⟩
   rcases List.mem_cons.1 ((insB_perm s l).mem_iff.1 hy) with rfl | hy
   ·exact hxs
   ·exact h'.1 y hy
theorem sortB_sorted : ∀ l,(sortB l).Pairwise (fun a b => a ≤ b)
 | [] => List.Pairwise.nil
 | s :: l => insB_sorted s (sortB_sorted l)
theorem sortB_eq (l : List (List UInt8)) : l.mergeSort (fun x y => decide (x ≤ y)) = sortB l:=by
 refine List.Perm.eq_of_pairwise (le:=fun a b => a ≤ b) (fun a b _ _ h1 h2 => List.le_antisymm h1 h2) ?_ (sortB_sorted l) ((List.mergeSort_perm _ _).trans (sortB_perm l).symm)
 have:=List.pairwise_mergeSort (le:=fun x y : List UInt8 => decide (x ≤ y)) (fun a b c h1 h2 => by simp only [decide_eq_true_eq] at *; exact List.le_trans h1 h2) (fun a b => by simp only [Bool.or_eq_true,decide_eq_true_eq]; exact List.le_total a b) l
 exact this.imp (fun h => by simpa using h)
theorem dedP_eq : ∀ (rest pre : List (List UInt8)) (p : List UInt8),((List.range' (pre.length + 1) rest.length).filter (Lib.keeps (pre ++ p :: rest).toArray)).map ((pre ++ p :: rest).toArray[·]!) = dedP p rest
 | [],pre,p => by simp [dedP]
 | x :: r,pre,p => by
  have ih:=dedP_eq r (pre ++ [p]) x
  have e : pre ++ [p] ++ x :: r = pre ++ p :: x :: r:=by simp
  have e2 : (pre ++ [p]).length + 1 = pre.length + 1 + 1:=by simp
  rw [e,e2] at ih
  have g1 : (pre ++ p :: x :: r).toArray[pre.length + 1]! = x:=by simp []
  have g0 : (pre ++ p :: x :: r).toArray[pre.length]! = p:=by simp
  simp only [List.length_cons]
  rw [List.range'_succ,List.filter_cons]
  have hk : Lib.keeps (pre ++ p :: x :: r).toArray (pre.length + 1) = decide (x ≠ p):=by
   unfold Lib.keeps
   rw [g1,Nat.add_sub_cancel,g0]
   simp
  rw [hk]
  unfold dedP
  by_cases hx : x = p
  ·subst hx
   simp only [ne_eq,not_true_eq_false,decide_false,Bool.false_eq_true,if_false,if_true]
   exact ih
  ·simp only [ne_eq,hx,not_false_eq_true,decide_true,if_true,if_false,List.map_cons,g1]
   rw [ih]
theorem dedB_eq (l : List (List UInt8)) : Lib.compact l = dedB l:=by
 cases l with
 | nil => rfl
 | cons x l =>
  have h:=dedP_eq l [] x
  simp only [List.nil_append,List.length_nil,Nat.zero_add] at h
  unfold Lib.compact Lib.compactUpTo dedB
  rw [List.length_cons,List.range_eq_range',List.range'_succ,List.filter_cons,if_pos (Lib.keeps_lt_one _ 0 (by omega)),List.map_cons,h]
  rfl
theorem sortB_length (l : List (List UInt8)) : (sortB l).length = l.length:=(sortB_perm l).length_eq
theorem dedP_length (p : List UInt8) : ∀ l,(dedP p l).length ≤ l.length
 | [] => Nat.le_refl _
 | x :: l => by
  unfold dedP
  split
  ·have:=dedP_length p l
   simp only [List.length_cons]; omega
  ·have:=dedP_length x l
   simp only [List.length_cons]; omega
theorem dedB_length : ∀ l,(dedB l).length ≤ l.length
 | [] => Nat.le_refl _
 | x :: l => by
  unfold dedB
  have:=dedP_length x l
  simp only [List.length_cons]; omega
theorem mem_dedP (p : List UInt8) : ∀ l,∀ s ∈ dedP p l,s ∈ l
 | [],s,h => by cases h
 | x :: l,s,h => by
  unfold dedP at h
  split at h
  ·exact List.mem_cons_of_mem _ (mem_dedP p l s h)
  ·rcases List.mem_cons.1 h with rfl | h
   ·exact List.mem_cons_self
   ·exact List.mem_cons_of_mem _ (mem_dedP x l s h)
theorem mem_dedB : ∀ l,∀ s ∈ dedB l,s ∈ l
 | [],s,h => by cases h
 | x :: l,s,h => by
  unfold dedB at h
  rcases List.mem_cons.1 h with rfl | h
  ·exact List.mem_cons_self
  ·exact List.mem_cons_of_mem _ (mem_dedP x l s h)
end Go.Proofs.YtmeakjgbjldkdaaGreat.Ai
namespace Go.Proofs.YtmeakjgbjldkdaaGreat.Ai
open Go
def badS (l : List Str) : AV → Bool
 | .str s => l.contains s
 | _ => false
def tagB (b : Nat) : Tag → Bool
 | .row b' _ => b' != b
 | _ => true
mutual
def aw (l : List Str) (b : Nat) : AV → Bool
 | .list _ tag rows => tagB b tag && awLL l b rows
 | .ref cs => awC l b cs
 | .func _ x y => awT l b x && awT l b y
 | .iface _ v => aw l b v
 | .agg cs => awT l b cs
 | .tup cs => awT l b cs
 | _ => true
def awT (l : List Str) (b : Nat) : List AV → Bool
 | [] => true
 | x :: xs => aw l b x && awT l b xs
def awC (l : List Str) (b : Nat) : List AV → Bool
 | [] => true
 | x :: xs => !badS l x && (aw l b x && awC l b xs)
def awLL (l : List Str) (b : Nat) : List (List AV) → Bool
 | [] => true
 | r :: rs => awC l b r && awLL l b rs
end
def awB (l : List Str) (b : Nat) : Blk → Bool
 | .cells cs => awT l b cs
 | .map es => es.all fun x => aw l b x.2
def awH (l : List Str) (b n : Nat) : Nat → List Blk → Bool
 | _,[] => true
 | k,x :: xs => (k == n || awB l b x) && awH l b n (k + 1) xs
theorem awH_spec {l : List Str} {b n : Nat} : ∀ {k : Nat} {hs : List Blk},awH l b n k hs = true → ∀ i x,hs[i]? = some x → k + i ≠ n → awB l b x = true
 | k,[],_,i,x,h,_ => by simp at h
 | k,y :: ys,hh,i,x,h,hne => by
  simp only [awH,Bool.and_eq_true,Bool.or_eq_true,beq_iff_eq] at hh
  cases i with
  | zero =>
   simp only [List.getElem?_cons_zero,Option.some.injEq] at h
   subst h
   exact hh.1.resolve_left (by simpa using hne)
  | succ i =>
   simp only [List.getElem?_cons_succ] at h
   exact awH_spec hh.2 i x h (by omega)
structure Moved (l : List Str) (b Br : Nat) (K K' : Ghost) : Prop where
 m : K'.m = K.m
 g : ∀ B,B ≠ Br → K'.g B = K.g B
 a : ∀ B,B ≠ Br → K'.a B = K.a B
 b : ∀ x,K.a Br = some x → x.1 = b
 fix : ∀ o vs,K.fix Br o vs → (∀ v ∈ vs,∀ s ∈ l,v ≠ .string ⟨s.toArray⟩) → K'.fix Br o vs
theorem Moved.fix' {l : List Str} {b Br : Nat} {K K' : Ghost} (M : Moved l b Br K K') {B o : Nat} {vs : List Value} (h : K.fix B o vs) (hv : ∀ v ∈ vs,∀ s ∈ l,v ≠ .string ⟨s.toArray⟩) : K'.fix B o vs:=by
 by_cases hB : B = Br
 ·subst hB
  exact M.fix o vs h hv
 ·obtain ⟨x,h1,h2⟩:=h
  exact ⟨x,by rw [M.g B hB]; exact h1,h2⟩
theorem Moved.tag {l : List Str} {b Br : Nat} {K K' : Ghost} (M : Moved l b Br K K') {sz : Nat} {tag : Tag} {len cap B o : Nat} (h : K.tagOk sz tag len cap B o) (hb : tagB b tag = true) : K'.tagOk sz tag len cap B o:=by
 cases tag with
 | full => exact h
 | dead => trivial
 | row b' e =>
  obtain ⟨⟨x,h1,h2⟩,h3⟩:=h
  have hB : B ≠ Br:=fun e => by
   subst e
   have:=M.b x h1
   simp only [tagB,bne_iff_ne,ne_eq] at hb
   exact hb (h2.symm.trans this)
  refine ⟨⟨x,by rw [M.a B hB]; exact h1,h2⟩,fun hlt => ?_⟩
  obtain ⟨E,size,l',ha,hg,hr⟩:=h3 hlt
  exact ⟨E,size,l',by rw [M.a B hB]; exact ha,by rw [M.g B hB]; exact hg,hr⟩
theorem notbad {l : List Str} {K : Ghost} {x : AV} {v : Value} (hb : badS l x = false) (h : Rep K x v) : ∀ s ∈ l,v ≠ .string ⟨s.toArray⟩:=by
 intro s hs he
 subst he
 cases x with
 | str s' =>
  simp only [Rep,Value.string.injEq,ByteArray.mk.injEq] at h
  have : s = s':=by simpa using congrArg Array.toList h
  subst this
  simp only [badS,List.contains_eq_mem,decide_eq_false_iff_not] at hb
  exact hb hs
 | _ => simp only [Rep] at h <;> first | (obtain ⟨_,h,_⟩:=h; simp at h) | (obtain ⟨_,_,h,_⟩:=h; simp at h) | (obtain ⟨_,_,_,h,_⟩:=h; simp at h) | (obtain ⟨_,_,h⟩:=h; simp at h) | (obtain ⟨_,_,_,_,h⟩:=h; simp at h) | simp at h
theorem notbadC {l : List Str} {b : Nat} {K : Ghost} : ∀ {cs : List AV} {vs : List Value},awC l b cs = true → RepL K cs vs → ∀ v ∈ vs,∀ s ∈ l,v ≠ .string ⟨s.toArray⟩
 | [],vs,_,h,v,hv => by simp only [RepL] at h; subst h; cases hv
 | x :: xs,vs,hc,h,v,hv => by
  simp only [RepL] at h
  obtain ⟨u,us,rfl,-,h1,h2⟩:=h
  simp only [awC,Bool.and_eq_true,Bool.not_eq_true'] at hc
  rcases List.mem_cons.1 hv with rfl | hv
  ·exact notbad hc.1 h1
  ·exact notbadC hc.2.2 h2 v hv
theorem notbadLL {l : List Str} {b : Nat} {K : Ghost} : ∀ {rs : List (List AV)} {vs : List Value},awLL l b rs = true → RepLL K rs vs → ∀ v ∈ vs,∀ s ∈ l,v ≠ .string ⟨s.toArray⟩
 | [],vs,_,h,v,hv => by simp only [RepLL] at h; subst h; cases hv
 | x :: xs,vs,hc,h,v,hv => by
  simp only [RepLL] at h
  obtain ⟨u,us,rfl,h1,h2⟩:=h
  simp only [awLL,Bool.and_eq_true] at hc
  rcases List.mem_append.1 hv with hv | hv
  ·exact notbadC hc.1 h1 v hv
  ·exact notbadLL hc.2 h2 v hv
mutual
theorem Moved.rep {l : List Str} {b Br : Nat} {K K' : Ghost} (M : Moved l b Br K K') : ∀ (x : AV) (v : Value),Rep K x v → aw l b x = true → Rep K' x v
 | .bool _,_,r,_ => by simpa only [Rep] using r
 | .int _ _,_,r,_ => by simpa only [Rep] using r
 | .str _,_,r,_ => by simpa only [Rep] using r
 | .nilp,_,r,_ => by simpa only [Rep] using r
 | .nilm,_,r,_ => by simpa only [Rep] using r
 | .nilf,_,r,_ => by simpa only [Rep] using r
 | .nili,_,r,_ => by simpa only [Rep] using r
 | .undef,_,r,_ => by simpa only [Rep] using r
 | .ptr n off,v,r,_ => by simp only [Rep,M.m] at r ⊢; exact r
 | .map n,v,r,_ => by simp only [Rep,M.m] at r ⊢; exact r
 | .arr n off sz len,v,r,_ => by simp only [Rep,M.m] at r ⊢; exact r
 | .ref cs,v,r,h => by
  simp only [aw] at h
  simp only [Rep] at r ⊢
  obtain ⟨B,o,vs,hv,hf,hc,hr⟩:=r
  exact ⟨B,o,vs,hv,M.fix' hf (notbadC h hr),hc,Moved.repC M cs vs hr h⟩
 | .list sz tag rows,v,r,h => by
  simp only [aw,Bool.and_eq_true] at h
  simp only [Rep] at r ⊢
  obtain ⟨base,cap,hv,hc,hs,hr⟩:=r
  refine ⟨base,cap,hv,hc,hs,hr.imp id ?_⟩
  rintro ⟨B,o,vs,hb,hf,hr,ht⟩
  exact ⟨B,o,vs,hb,M.fix' hf (notbadLL h.2 hr),Moved.repLL M rows vs hr h.2,M.tag ht h.1⟩
 | .func f x y,v,r,h => by
  simp only [aw,Bool.and_eq_true] at h
  simp only [Rep] at r ⊢
  obtain ⟨us,vs,hv,h1,h2⟩:=r
  exact ⟨us,vs,hv,Moved.repT M x us h1 h.1,Moved.repT M y vs h2 h.2⟩
 | .iface t x,v,r,h => by
  simp only [aw] at h
  simp only [Rep] at r ⊢
  obtain ⟨u,hv,h1⟩:=r
  exact ⟨u,hv,Moved.rep M x u h1 h⟩
 | .agg cs,v,r,h => by
  simp only [aw] at h
  simp only [Rep] at r ⊢
  obtain ⟨vs,hv,h1⟩:=r
  exact ⟨vs,hv,Moved.repL M cs vs h1 h⟩
 | .tup cs,v,r,h => by
  simp only [aw] at h
  simp only [Rep] at r ⊢
  obtain ⟨vs,hv,h1⟩:=r
  exact ⟨vs,hv,Moved.repT M cs vs h1 h⟩
theorem Moved.repL {l : List Str} {b Br : Nat} {K K' : Ghost} (M : Moved l b Br K K') : ∀ (x : List AV) (v : List Value),RepL K x v → awT l b x = true → RepL K' x v
 | [],v,r,_ => by simpa only [RepL] using r
 | a :: ys,v,r,h => by
  simp only [awT,Bool.and_eq_true] at h
  simp only [RepL] at r ⊢
  obtain ⟨u,us,hv,h1,h2,h3⟩:=r
  exact ⟨u,us,hv,h1,Moved.rep M a u h2 h.1,Moved.repL M ys us h3 h.2⟩
theorem Moved.repC {l : List Str} {b Br : Nat} {K K' : Ghost} (M : Moved l b Br K K') : ∀ (x : List AV) (v : List Value),RepL K x v → awC l b x = true → RepL K' x v
 | [],v,r,_ => by simpa only [RepL] using r
 | a :: ys,v,r,h => by
  simp only [awC,Bool.and_eq_true] at h
  simp only [RepL] at r ⊢
  obtain ⟨u,us,hv,h1,h2,h3⟩:=r
  exact ⟨u,us,hv,h1,Moved.rep M a u h2 h.2.1,Moved.repC M ys us h3 h.2.2⟩
theorem Moved.repT {l : List Str} {b Br : Nat} {K K' : Ghost} (M : Moved l b Br K K') : ∀ (x : List AV) (v : List Value),RepT K x v → awT l b x = true → RepT K' x v
 | [],v,r,_ => by simpa only [RepT] using r
 | a :: ys,v,r,h => by
  simp only [awT,Bool.and_eq_true] at h
  simp only [RepT] at r ⊢
  obtain ⟨u,us,hv,h2,h3⟩:=r
  exact ⟨u,us,hv,Moved.rep M a u h2 h.1,Moved.repT M ys us h3 h.2⟩
theorem Moved.repLL {l : List Str} {b Br : Nat} {K K' : Ghost} (M : Moved l b Br K K') : ∀ (x : List (List AV)) (v : List Value),RepLL K x v → awLL l b x = true → RepLL K' x v
 | [],v,r,_ => by simpa only [RepLL] using r
 | a :: ys,v,r,h => by
  simp only [awLL,Bool.and_eq_true] at h
  simp only [RepLL] at r ⊢
  obtain ⟨u,us,hv,h2,h3⟩:=r
  exact ⟨u,us,hv,Moved.repC M a u h2 h.1,Moved.repLL M ys us h3 h.2⟩
end
theorem Moved.repM {l : List Str} {b Br : Nat} {K K' : Ghost} (M : Moved l b Br K K') : ∀ {es : List (Str × AV)} {ms : List MapEntry},RepM K es ms → (es.all fun x => aw l b x.2) = true → RepM K' es ms
 | [],_,h,_ => by simpa only [RepM] using h
 | x :: es,ms,h,ha => by
  simp only [List.all_cons,Bool.and_eq_true] at ha
  simp only [RepM] at h ⊢
  obtain ⟨m,ms',h1,h2,h3,h4⟩:=h
  exact ⟨m,ms',h1,h2,Moved.rep M _ _ h3 ha.1,M.repM h4 ha.2⟩
end Go.Proofs.YtmeakjgbjldkdaaGreat.Ai
namespace Go.Proofs.YtmeakjgbjldkdaaGreat.Ai
open Go
noncomputable def pre59 : IC:=match i59.body with
 | .seq a _ => a
 | c => c
noncomputable def slotsP : CallFn → List AV → St → Option (Res × St):=fun cl vs S =>
 if vs.length = 1 then match exec S.heap.length cl 100 pre59 (args0 vs) S with
  | some (.normal,e1,S1) => match eget e1 0 with
   | some (.ptr bx 0) => match S1.heap[bx]? with
    | some (.cells (.ptr n 0 :: _)) => match S1.heap[n]? with
     | some (.cells cs) => match (cs[6]? : Option AV) with
      | some (.list 1 (.row b _) rows) => match strsOf rows with
       | some l => if bx < S.heap.length ∧ n < S.heap.length ∧ S.rows.length ≤ b ∧ l.length ≤ 1000000 ∧ 0 < l.length ∧ awT l b (overlay cs 6 [.nilp]) = true ∧ awH l b n 0 (S1.heap.take S.heap.length) = true then
         some (.ret (.tup []),⟨(S1.heap.take S.heap.length).set n (.cells (overlay cs 6 [.list 1 .dead ((dedB (sortB l)).map fun s => [.str s])])),S1.rows⟩)
        else none
       | none => none
      | _ => none
     | _ => none
    | _ => none
   | _ => none
  | _ => none
 else none
end Go.Proofs.YtmeakjgbjldkdaaGreat.Ai
namespace Go.Proofs.YtmeakjgbjldkdaaGreat.Ai
open Go
noncomputable def PrB : Prims:=fun n => match n with
 | 54 => some joinP
 | 58 => some onceP
 | 59 => some slotsP
 | 62 => some cloneP
 | _ => none
theorem joinP_mono : PrimMono joinP:=fun _ _ _ _ _ _ h => h
theorem cloneP_mono : PrimMono cloneP:=fun _ _ _ _ _ _ h => h
theorem onceP_mono : PrimMono onceP:=by
 intro c c' h vs S a ha
 unfold onceP at ha ⊢
 split at ha
 ·rename_i n off m
  try dsimp only at ha ⊢
  split at ha
  ·rename_i cs hcs
   try dsimp only at ha ⊢
   split at ha
   ·rename_i h0 h1
    cases hx : c 59 [.ptr m 0] ⟨setC S.heap n (off + 1) (.int .i32 1),S.rows⟩ with
    | none => rw [hx] at ha; simp at ha
    | some x =>
     rw [h _ _ _ _ hx]
     rw [hx] at ha
     exact ha
   ·exact ha
   ·simp at ha
  ·simp at ha
 ·simp at ha
theorem slotsP_mono : PrimMono slotsP:=by
 intro c c' h vs S a ha
 unfold slotsP at ha ⊢
 split at ha
 ·rename_i hv
  rw [if_pos hv]
  cases hx : exec S.heap.length c 100 pre59 (args0 vs) S with
  | none => rw [hx] at ha; simp at ha
  | some x =>
   rw [exec_mono h (Nat.le_refl 100) _ _ _ _ hx]
   rw [hx] at ha
   exact ha
 ·simp at ha
theorem prB_mono : Mono PrB:=by
 intro f p hp
 unfold PrB at hp
 split at hp
 ·simp only [Option.some.injEq] at hp; subst hp; exact joinP_mono
 ·simp only [Option.some.injEq] at hp; subst hp; exact onceP_mono
 ·simp only [Option.some.injEq] at hp; subst hp; exact slotsP_mono
 ·simp only [Option.some.injEq] at hp; subst hp; exact cloneP_mono
 ·simp at hp
structure Kn where
 f : Nat
 vs : List AV
 S : St
 r : Res
 T : St
def beqM : List (Str × AV) → List (Str × AV) → Bool
 | [],[] => true
 | (a,x) :: l,(b,y) :: m => a == b && (AV.beq x y && beqM l m)
 | _,_ => false
def beqB : Blk → Blk → Bool
 | .cells a,.cells b => AV.beqL a b
 | .map a,.map b => beqM a b
 | _,_ => false
def beqH : List Blk → List Blk → Bool
 | [],[] => true
 | a :: l,b :: m => beqB a b && beqH l m
 | _,_ => false
def beqS (S T : St) : Bool:=beqH S.heap T.heap && S.rows == T.rows
def beqR : Res → Res → Bool
 | .ret a,.ret b => AV.beq a b
 | .panic a,.panic b => AV.beq a b
 | _,_ => false
theorem beqM_eq : ∀ {a b : List (Str × AV)},beqM a b = true → a = b
 | [],[],_ => rfl
 | (a,x) :: l,(b,y) :: m,h => by
  simp only [beqM,Bool.and_eq_true,beq_iff_eq] at h
  rw [h.1,eq_of_beq _ _ h.2.1,beqM_eq h.2.2]
 | [],_ :: _,h => by simp [beqM] at h
 | _ :: _,[],h => by simp [beqM] at h
theorem beqB_eq {a b : Blk} (h : beqB a b = true) : a = b:=by
 cases a <;> cases b <;> simp only [beqB,Bool.false_eq_true] at h
 ·rw [eq_of_beqL _ _ h]
 ·rw [beqM_eq h]
theorem beqH_eq : ∀ {a b : List Blk},beqH a b = true → a = b
 | [],[],_ => rfl
 | a :: l,b :: m,h => by
  simp only [beqH,Bool.and_eq_true] at h
  rw [beqB_eq h.1,beqH_eq h.2]
 | [],_ :: _,h => by simp [beqH] at h
 | _ :: _,[],h => by simp [beqH] at h
theorem beqS_eq {S T : St} (h : beqS S T = true) : S = T:=by
 simp only [beqS,Bool.and_eq_true,beq_iff_eq] at h
 cases S; cases T
 simp only at h
 rw [beqH_eq h.1,h.2]
theorem beqR_eq {a b : Res} (h : beqR a b = true) : a = b:=by
 cases a <;> cases b <;> simp only [beqR,Bool.false_eq_true] at h
 ·rw [eq_of_beq _ _ h]
 ·rw [eq_of_beq _ _ h]
def seek (f : Nat) (vs : List AV) (S : St) : List Kn → Option (Res × St)
 | [] => none
 | k :: ks => if (k.f == f && (AV.beqL k.vs vs && beqS k.S S)) = true then some (k.r,k.T) else seek f vs S ks
def Known (k : Kn) : Prop:=∃ n,callN PrB FA n k.f k.vs k.S = some (k.r,k.T)
theorem seek_spec {f : Nat} {vs : List AV} {S : St} : ∀ {ks : List Kn} {x : Res × St},seek f vs S ks = some x → ∃ k ∈ ks,k.f = f ∧ k.vs = vs ∧ k.S = S ∧ x = (k.r,k.T)
 | [],x,h => by simp [seek] at h
 | k :: ks,x,h => by
  simp only [seek] at h
  split at h
  ·rename_i hc
   simp only [Bool.and_eq_true,beq_iff_eq] at hc
   simp only [Option.some.injEq] at h
   exact ⟨k,List.mem_cons_self,hc.1,eq_of_beqL _ _ hc.2.1,beqS_eq hc.2.2,h.symm⟩
  ·obtain ⟨k',h1,h2⟩:=seek_spec h
   exact ⟨k',List.mem_cons_of_mem _ h1,h2⟩
noncomputable def callK (ks : List Kn) : Nat → CallFn
 | 0 => fun _ _ _ => none
 | n + 1 => fun f vs S => match seek f vs S ks with
  | some x => some x
  | none => match PrB f with
   | some p => p (callK ks n) vs S
   | none => match FA f with
    | some fn => enter (callK ks n) n fn vs S
    | none => none
theorem known_all : ∀ {ks : List Kn},(∀ k ∈ ks,Known k) → ∃ M,∀ k ∈ ks,callN PrB FA M k.f k.vs k.S = some (k.r,k.T)
 | [],_ => ⟨0,fun k h => by cases h⟩
 | k :: ks,h => by
  obtain ⟨M,hM⟩:=known_all (fun k' hk => h k' (List.mem_cons_of_mem _ hk))
  obtain ⟨n,hn⟩:=h k List.mem_cons_self
  refine ⟨n + M,fun k' hk => ?_⟩
  rcases List.mem_cons.1 hk with rfl | hk
  ·exact callN_mono prB_mono (by omega) _ _ _ _ hn
  ·exact callN_mono prB_mono (by omega) _ _ _ _ (hM k' hk)
theorem callK_le {ks : List Kn} {M : Nat} (h : ∀ k ∈ ks,callN PrB FA M k.f k.vs k.S = some (k.r,k.T)) : ∀ n,CLe (callK ks n) (callN PrB FA (M + n))
 | 0 => fun f vs S a ha => by simp [callK] at ha
 | n + 1 => by
  intro f vs S a ha
  have ih:=callK_le h n
  rw [callK] at ha
  dsimp only at ha
  split at ha
  ·rename_i x hx
   obtain ⟨k,hk,rfl,rfl,rfl,rfl⟩:=seek_spec hx
   simp only [Option.some.injEq] at ha
   subst ha
   exact callN_mono prB_mono (by omega) _ _ _ _ (h k hk)
  ·rw [show M + (n + 1) = (M + n) + 1 by omega,callN]
   dsimp only
   split at ha
   ·rename_i p hp
    rw [hp]
    exact prB_mono f p hp _ _ ih vs S a ha
   ·rename_i hp
    rw [hp]
    dsimp only
    split at ha
    ·rename_i fn hf
     rw [hf]
     exact enter_mono ih (by omega) fn vs S a ha
    ·simp at ha
def isK (o : Option (Res × St)) (k : Kn) : Bool:=match o with
 | some x => beqR x.1 k.r && beqS x.2 k.T
 | none => false
theorem known_of {ks : List Kn} (h : ∀ k ∈ ks,Known k) (k : Kn) {n : Nat} (hk : isK (callK ks n k.f k.vs k.S) k = true) : Known k:=by
 obtain ⟨M,hM⟩:=known_all h
 unfold isK at hk
 split at hk
 ·rename_i x hx
  simp only [Bool.and_eq_true] at hk
  refine ⟨M + n,?_⟩
  rw [callK_le hM n _ _ _ _ hx]
  rw [← beqR_eq hk.1,← beqS_eq hk.2]
 ·simp at hk
end Go.Proofs.YtmeakjgbjldkdaaGreat.Ai
