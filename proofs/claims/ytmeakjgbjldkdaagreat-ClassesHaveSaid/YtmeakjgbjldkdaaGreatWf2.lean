/- A class has every method that what it is below has, with a result of the same type, and the overloads of a name are its methods of that name: for every two texts the statement's function returns true. No condition. -/
import Derived.Test.YtmeakjgbjldkdaaGreatWf1
import Derived.Test.YtmeakjgbjldkdaaGreatRows
import Derived.ProofKit
set_option maxRecDepth 100000
set_option maxHeartbeats 16000000
namespace Go.Proofs.YtmeakjgbjldkdaaGreat.Ai
open Go Go.Sort Go.Proofs.YtmeakjgbjldkdaaGreat.Slo
def tabOk (m : Nat) (cs : List AV) : Bool:=cs.all fun x => closed1 x || match x with
 | .map k => k == m
 | _ => false
theorem tabOk_spec {m : Nat} {cs : List AV} (h : tabOk m cs = true) : ∀ x ∈ cs,closed1 x = true ∨ x = .map m:=by
 intro x hx
 have:=List.all_eq_true.1 h x hx
 rw [Bool.or_eq_true] at this
 refine this.imp id fun h => ?_
 cases x <;> simp at h
 rw [h]
open Classical in
noncomputable def methEnd (S : St) (m : Nat) (es : List (Str × AV)) : AV → St → Option (Res × St)
 | .list 13 (.row b _) rows,S1 => match keysOf rows with
  | some ks => if S.rows.length < b ∧ ks.Nodup ∧ nestLL bad13 rows = true ∧ S1.heap[m]? = some (.map es) ∧ rows.length ≤ 1000000000 ∧ rows ≠ [] then some (.ret (.list 13 .dead (sortRows ks rows)),⟨S.heap,S1.rows⟩) else none
  | none => none
 | .list 0 .full [],S1 => if S1.heap[m]? = some (.map es) then some (.ret (.list 0 .full []),⟨S.heap,S1.rows⟩) else none
 | _,_ => none
noncomputable def methP : CallFn → List AV → St → Option (Res × St):=fun cl vs S => match vs with
 | [.ptr n 0,.str s] => match S.heap[n]? with
  | some (.cells cs) => match (cs[1]? : Option AV) with
   | some (.map m) => match S.heap[m]? with
    | some (.map es) => if intsM es = true ∧ tabOk m cs = true then
      match exU cl pre37 (args0 [.ref cs,.str s]) ⟨S.heap,S.rows ++ [0]⟩ with
      | some (.normal,e1,S1) => match eget e1 5 with
       | some v => methEnd S m es v S1
       | none => none
      | _ => none
     else none
    | _ => none
   | _ => none
  | _ => none
 | _ => none
theorem methP_mono : PrimMono methP:=by
 intro c c' hc vs S a h
 unfold methP at h ⊢
 split at h
 ·rename_i n s
  split at h
  ·rename_i cs hcs
   split at h
   ·rename_i m hm
    split at h
    ·rename_i es hes
     split at h
     ·rename_i hif
      simp only [if_pos hif]
      split at h
      ·rename_i e1 S1 hx
       rw [exU_mono hc _ _ _ _ hx]
       exact h
      ·simp at h
     ·simp at h
    ·simp at h
   ·simp at h
  ·simp at h
 ·simp at h
noncomputable def pre37c : IC:=.seq r37_2 (.block 0 (.loop [0,5,13,14,15] (.seq r37_3 (.seq (.cond (.tmp 16) (.skip) (.exit 0)) (.seq (.block 1 (.seq r37_4 (.seq r37_5 (.block 2 (.loop [0,5,7,13,14,15,26,27,28] (.seq r37_6 (.seq (.cond (.tmp 29) (.skip) (.exit 2)) (.seq (.block 3 (.seq r37_7 (.seq r37_8 (.seq r37_9 (.cond (.tmp 40) r37_10 (.skip)))))) r37_11)))))))) r37_12)))))
theorem pre37_eq : pre37 = .seq r37_0 (.seq r37_1 pre37c):=rfl
theorem chk_a : chkC Tryz.prog 60 r37_0 a37 = true:=by unfold a37; kernel_rfl
theorem chk_b : chkC Tryz.prog 60 r37_1 b37 = true:=by unfold b37; kernel_rfl
theorem chk_c : chkC Tryz.prog 60 pre37c c37c = true:=by unfold c37c; kernel_rfl
theorem enter37 (us : Array Value) (w : World) : (callFunc 37 us).run Tryz.prog w = .ok (.enter 37 us) w:=by
 have hf:=Tryz.func37
 have hb : Tryz.f37.body.isSome = true:=by kernel_rfl
 have h2 : (Tryz.f37.name != "runtime.NumGoroutine") = true:=by kernel_rfl
 obtain ⟨c,hc⟩:=Option.isSome_iff_exists.1 hb
 have h3 : ¬Tryz.f37.name = "runtime.NumGoroutine":=by simpa using h2
 simp [callFunc,hf,h3,hc]
theorem pre37_wp {cl : CallFn} (hcl : CallSim Tryz.prog cl) {n : Nat} {K : Ghost} {S S' : St} {w : World} {a : Act} {e e' : Env} {Q : Exit → Act → World → Prop} (R : Rel K S w) (hI : Inner S.heap.length S) (E : EnvRep K (eget e) a.tmps) (hnt : 60 ≤ a.tmps.size)
  (hx : exec S.heap.length cl n pre37 e S = some (.normal,e',S'))
  (hQ : ∀ a' w' K',Rel K' S' w' → EnvRep K' (eget e') a'.tmps → a'.defers = a.defers → a'.tmps.size = a.tmps.size → Step K (fun n => n < S.heap.length) w K' w' → tail37.wp Tryz.prog Q a' w') :
  (Code.seq a37 (.seq b37 (.seq c37c tail37))).wp Tryz.prog Q a w:=by
 rw [pre37_eq] at hx
 obtain ⟨ea,Sa,hxa,hx⟩:=exec_seq_inv hx
 obtain ⟨eb,Sb,hxb,hxc⟩:=exec_seq_inv hx
 refine wp_seq (csim_norm hcl chk_a R hI E hnt (Nat.le_refl _) hxa ?_)
 intro aa wa Ka Ra Ea hda hsa hsta hka
 refine wp_seq (csim_norm hcl chk_b Ra (hka.2.2 hI) Ea (by omega) hka.1 hxb ?_)
 intro ab wb Kb Rb Eb hdb hsb hstb hkb
 refine wp_seq (csim_norm hcl chk_c Rb (hkb.2.2 (hka.2.2 hI)) Eb (by omega) (Nat.le_trans hka.1 hkb.1) hxc ?_)
 intro ac wc Kc Rc Ec hdc hsc hstc hkc
 exact hQ ac wc Kc Rc Ec (hdc.trans (hdb.trans hda)) (hsc.trans (hsb.trans hsa)) ((hsta.trans hstb (fun m hm => Nat.lt_of_lt_of_le hm hka.1)).trans hstc (fun m hm => Nat.lt_of_lt_of_le hm (Nat.le_trans hka.1 hkb.1)))
theorem putRow_atG {α : Type} [Inhabited α] {enc : α → Value} {w : World} {br off : Nat} {d : Array α} {us : Array Value} {t : TypeId} (h : w.heap[br]? = some (.cells us t (0,0))) : (putRow enc w br off d).heap[br]? = some (.cells (putCells enc off d us) t (0,0)):=by
 simp [putRow,mapBlock,Array.getElem?_modify,h,onCells]
theorem putRow_neG {α : Type} [Inhabited α] {enc : α → Value} {w : World} {br off k : Nat} {d : Array α} (h : k ≠ br) : (putRow enc w br off d).heap[k]? = w.heap[k]?:=by
 simp only [putRow,mapBlock,Array.getElem?_modify]
 rw [if_neg (Ne.symm h)]
theorem nestLL_mem {bad : Nat → Bool} : ∀ {rows : List (List AV)},nestLL bad rows = true → ∀ r ∈ rows,nestL bad r = true
 | [],_,r,hr => by cases hr
 | x :: xs,h,r,hr => by
  simp only [nestLL,Bool.and_eq_true] at h
  rcases List.mem_cons.1 hr with rfl | hr
  ·exact h.1
  ·exact nestLL_mem h.2 r hr
theorem meth_sim : PrimSim Tryz.prog 37 methP:=by
 intro cl hcl vs S r S' hp K w us R hI ha
 unfold methP at hp
 split at hp
 case h_2 => simp at hp
 rename_i n s
 simp only at hp
 split at hp
 case h_2 => simp at hp
 rename_i cs hcs
 split at hp
 case h_2 => simp at hp
 rename_i m hcm
 split at hp
 case h_2 => simp at hp
 rename_i es hes
 split at hp
 case isFalse => simp at hp
 rename_i hif
 obtain ⟨hint,htab⟩:=hif
 split at hp
 case h_2 => simp at hp
 rename_i e1 S1 hex
 split at hp
 case h_2 => simp at hp
 rename_i v hv5
 obtain ⟨nf,hex⟩:=exU_some hex
 refine .inl ⟨enter37 _ _,?_⟩
 simp only [RepT] at ha
 obtain ⟨u0,us1,rfl,hu0,u1,us2,rfl,hu1,rfl⟩:=ha
 simp only [Rep] at hu0
 obtain ⟨B0,hB0,rfl⟩:=hu0
 obtain ⟨vs0,t0,hw0,hrep0⟩:=R.cells n B0 cs hB0 hcs
 obtain ⟨um,-,-,hum⟩:=hrep0.get 1 _ hcm
 simp only [Rep] at hum
 obtain ⟨Bm,hBm,-⟩:=hum
 obtain ⟨vs,t,e1',e2,Ro⟩:=rel_out R hB0 hcs hBm hes hint
 rw [hw0] at e1'
 simp only [Option.some.injEq,Obj.cells.injEq,and_true] at e1'
 obtain ⟨rfl,rfl⟩:=e1'
 have hRef:=ref_out (b:=S.rows.length) R hB0 hBm (tabOk_spec htab) e2
 have hargs : RepT (outK K B0 vs0.toList m Bm S.rows.length) [.ref cs,.str s] [.pointer (some ⟨B0,0,none⟩),u1]:=by
  simp only [RepT]
  refine ⟨_,_,rfl,hRef,_,_,rfl,?_,rfl⟩
  simpa only [Rep] using hu1
 have hE:=args_rep hargs 60
 refine calls_of_wp Tryz.func37 body37 ?_
 rw [Tryz.ntmps37]
 refine pre37_wp hcl (S:=⟨S.heap,S.rows ++ [0]⟩) Ro hI hE (by simp) hex ?_
 intro a1 w1 K1 R1 E1 hdf hsz hst
 have hsz60 : a1.tmps.size = 60:=by
  rw [hsz]
  simp
 obtain ⟨-,hr5⟩:=E1 5 v hv5
 unfold methEnd at hp
 split at hp
 ·
  rename_i b en rows
  split at hp
  case h_2 => simp at hp
  rename_i ks hks
  split at hp
  case isFalse => simp at hp
  rename_i hc
  obtain ⟨c1,c2,c3,c4,c5,c6⟩:=hc
  simp only [Option.some.injEq,Prod.mk.injEq] at hp
  obtain ⟨rfl,rfl⟩:=hp
  obtain ⟨Rb,Rm,hstm,hnst⟩:=rel_mid R hB0 hcs hBm hes hint hw0 e2 hst R1 c4
  simp only [Rep] at hr5
  obtain ⟨base,cap,hsv,hcap,hrs,hrow⟩:=hr5
  have hkl:=keysOf_len hks
  rcases hrow with ⟨-,h0,-⟩ | ⟨Br,o,vr,rfl,hfix,hrl,ht⟩
  ·exact absurd h0 c6
  obtain ⟨⟨x,hxa,hxb⟩,-⟩:=ht.2
  have hx13:=ht.1 x hxa
  have hnew : w.heap.size ≤ Br:=by
   rcases hst.born Br x hxa with ⟨⟨b',E,sz,size⟩,hy⟩ | h
   ·exfalso
    obtain ⟨E',h1,-⟩:=hst.ext.a Br b' E sz size hy
    rw [hxa] at h1
    simp only [Option.some.injEq] at h1
    subst h1
    simp only at hxb
    subst hxb
    simp only [outK] at hy
    split at hy
    ·simp only [Option.some.injEq,Prod.mk.injEq] at hy
     omega
    ·obtain ⟨_,-,-,r0,hr0,-⟩:=R.grow Br b' E sz size hy
     have:=(List.getElem?_eq_some_iff.1 hr0).1
     omega
   ·exact h
  obtain ⟨lr,hgr,hlr⟩:=hfix
  obtain ⟨ur,tr,hur,hurl⟩:=R1.rows Br lr hgr
  have hne0 : Br ≠ B0:=fun e => by
   have:=(Array.getElem?_eq_some_iff.1 hw0).1
   omega
  obtain ⟨us,rfl,husl,husr⟩:=RepLL.chunks hrl
  have hrlen : ∀ (i : Nat) (u : List Value),us[i]? = some u → u.length = 13:=fun i u hu => by
   have hi:=(List.getElem?_eq_some_iff.1 hu).1
   obtain ⟨r,hr⟩ : ∃ r,rows[i]? = some r:=⟨_,List.getElem?_eq_getElem (by omega)⟩
   rw [(husr i r u hr hu).length]
   exact (hrs r (List.mem_of_getElem? hr)).1
  have hone : ∀ (i : Nat) (u : List Value),us[i]? = some u → ∀ v ∈ u,v.oneCell' = true:=fun i u hu => by
   have hi:=(List.getElem?_eq_some_iff.1 hu).1
   obtain ⟨r,hr⟩ : ∃ r,rows[i]? = some r:=⟨_,List.getElem?_eq_getElem (by omega)⟩
   exact (husr i r u hr hu).oneCell
  obtain ⟨rest,hrest⟩ : ∃ rest : List UInt8 → List Value,rest = fun k => valFor k ks us:=⟨_,rfl⟩
  have h12 : ∀ k,(rest k).length = 12:=fun k => by
   rw [hrest]
   rcases valFor_cases k ks us with ⟨u,hu,h⟩ | h
   ·obtain ⟨i,hi⟩:=List.getElem?_of_mem hu
    simp only [h,List.length_tail,hrlen i u hi]
   ·simp only [h,List.length_replicate]
  have h1c : ∀ k,∀ v ∈ rest k,v.oneCell' = true:=fun k v hv => by
   rw [hrest] at hv
   rcases valFor_cases k ks us with ⟨u,hu,h⟩ | h
   ·obtain ⟨i,hi⟩:=List.getElem?_of_mem hu
    simp only [h] at hv
    exact hone i u hi v (List.mem_of_mem_tail hv)
   ·simp only [h] at hv
    rw [List.eq_of_mem_replicate hv]
    rfl
  have henc : ∀ k,(encR rest k).length = 13:=fun k => by simp [encR,h12]
  have hkey : ∀ (i : Nat) (k : Str),ks[i]? = some k → ∃ u,us[i]? = some u ∧ encR rest k = u ∧ RepL K1 (rowFor k ks rows) u ∧ rowFor k ks rows ∈ rows:=fun i k hk => by
   have hi:=(List.getElem?_eq_some_iff.1 hk).1
   obtain ⟨r,hr⟩ : ∃ r,rows[i]? = some r:=⟨_,List.getElem?_eq_getElem (by omega)⟩
   obtain ⟨u,hu⟩ : ∃ u,us[i]? = some u:=⟨_,List.getElem?_eq_getElem (by omega)⟩
   obtain ⟨r',rfl⟩:=keysOf_get hks i k r hk hr
   have hrr:=husr i _ u hr hu
   refine ⟨u,hu,?_,by rw [rowFor_get c2 hk hr]; exact hrr,by rw [rowFor_get c2 hk hr]; exact List.mem_of_getElem? hr⟩
   simp only [RepL] at hrr
   obtain ⟨x0,xs,rfl,-,hx0,-⟩:=hrr
   simp only [Rep] at hx0
   subst hx0
   unfold encR
   rw [hrest]
   simp only [valFor_get c2 hk hu,List.tail_cons]
  have hmap : ks.map (encR rest) = us:=by
   apply List.ext_getElem?
   intro i
   rw [List.getElem?_map]
   cases hk : ks[i]? with
   | none =>
    rw [List.getElem?_eq_none (by have:=List.getElem?_eq_none_iff.1 hk; omega)]
    rfl
   | some k =>
    obtain ⟨u,hu,he,-⟩:=hkey i k hk
    rw [hu,Option.map_some,he]
  have hflat : (flatK (encR rest) 13 ks.toArray).toList = us.flatten:=by rw [flatK_list _ henc,hmap]
  have hfl : us.flatten.length = ks.length * 13:=by rw [← hmap]; exact flat_len13 _ henc ks
  have hH : HoldsK (encR rest) 13 w1 Br o ks.toArray:=by
   intro j hj
   rw [size_flatK] at hj
   simp only [List.size_toArray] at hj
   refine ⟨?_,free_at hur _⟩
   rw [cells_at hur]
   have h1 : (flatK (encR rest) 13 ks.toArray)[j]! = us.flatten[j]!:=by
    rw [← hflat,getElem!_pos _ j (by rw [size_flatK,List.size_toArray]; exact hj),getElem!_pos _ j (by rw [Array.length_toList,size_flatK,List.size_toArray]; exact hj),Array.getElem_toList]
   have h2 : us.flatten[j]? = lr[o + j]?:=by
    have : ((lr.drop o).take us.flatten.length)[j]? = us.flatten[j]?:=by rw [hlr]
    rw [List.getElem?_take_of_lt (by omega),List.getElem?_drop] at this
    exact this.symm
   have h3 : ur[o + j]? = lr[o + j]?:=by
    have hlt : o + j < lr.length:=by
     refine Nat.lt_of_not_le fun hle => ?_
     rw [List.getElem?_eq_none hle,List.getElem?_eq_none_iff] at h2
     omega
    have : (ur.toList.take lr.length)[o + j]? = lr[o + j]?:=by rw [hurl]
    rw [List.getElem?_take_of_lt hlt] at this
    simpa using this
   show ur[o + j]? = some ((flatK (encR rest) 13 ks.toArray)[j]!)
   rw [h1,h3,← h2,getElem!_pos us.flatten j (by omega),List.getElem?_eq_getElem (by omega)]
  have hcall:=sort72 rest h12 h1c Br o cap ks.toArray w1 hH (Array.getElem?_eq_some_iff.1 hur).1 (by simp only [List.size_toArray]; omega)
  simp only [List.size_toArray,hkl] at hcall
  refine tail37_wp _ _ _ a1 w1 hsz60 hdf hsv hcall ?_
  rintro a' w' hda ha60 ha4 ⟨nd,os,rfl⟩
  obtain ⟨so,hso⟩ : ∃ so,so = sortB ks:=⟨_,rfl⟩
  rw [← hso]
  have hsl : so.length = ks.length:=by rw [hso]; exact sortB_length ks
  have hsm : ∀ k ∈ so,k ∈ ks:=fun k hk => (sortB_perm ks).mem_iff.1 (hso ▸ hk)
  have hbr:=(Array.getElem?_eq_some_iff.1 hur).1
  have hw2 : ∀ k,k < w1.heap.size → (sortWorldK (encR rest) 13 w1 Br o nd so.toArray os).heap[k]? = (putRow id (Sort.ahead w1 nd) Br o (flatK (encR rest) 13 so.toArray)).heap[k]?:=fun k hk => Array.getElem?_append_left (by simpa [putRowK] using hk)
  have hcur : (sortWorldK (encR rest) 13 w1 Br o nd so.toArray os).heap[Br]? = some (.cells (putCells id o (flatK (encR rest) 13 so.toArray) ur) tr (0,0)):=by
   rw [hw2 Br hbr]
   exact putRow_atG hur
  have hoth : ∀ B,B < w1.heap.size → B ≠ Br → (sortWorldK (encR rest) 13 w1 Br o nd so.toArray os).heap[B]? = w1.heap[B]?:=fun B hB hne => by
   rw [hw2 B hB,putRow_neG hne]
   rfl
  have hsize : w1.heap.size ≤ (sortWorldK (encR rest) 13 w1 Br o nd so.toArray os).heap.size:=size_sortWorldK_c _ _ _ _ _ _ _ _
  have hW1 : (sortWorldK (encR rest) 13 w1 Br o nd so.toArray os).os = w1.os:=rfl
  have hW2 : (sortWorldK (encR rest) 13 w1 Br o nd so.toArray os).tape = w1.tape:=rfl
  have hW3 : (sortWorldK (encR rest) 13 w1 Br o nd so.toArray os).output = w1.output:=rfl
  generalize sortWorldK (encR rest) 13 w1 Br o nd so.toArray os = w2 at hcur hoth hsize hW1 hW2 hW3 ⊢
  obtain ⟨l',hl'⟩ : ∃ l',l' = (putCells id o (flatK (encR rest) 13 so.toArray) ur).toList.take (o + ks.length * 13):=⟨_,rfl⟩
  have husz : o + ks.length * 13 ≤ ur.size:=by
   have e1:=congrArg List.length hlr
   have e2:=congrArg List.length hurl
   rw [List.length_take,List.length_drop,hfl] at e1
   rw [List.length_take] at e2
   simp only [Array.length_toList] at e2
   have h0 : 0 < ks.length:=by
    rw [hkl]
    exact List.length_pos_iff.2 c6
   omega
  have hl'len : l'.length = o + ks.length * 13:=by
   rw [hl',List.length_take]
   simp [putCells]
   omega
  obtain ⟨R2,hst2⟩:=rel_row R Rb Rm (hstm fun n => n < S.heap.length) (Br:=Br) (lr:=lr) (l':=l') hnew (by simp only [midK]; rw [if_neg hne0]; exact hgr) rfl hW1 hW2 hW3 hsize hoth hcur (by rw [hl'len,hl'])
  have hnst2 : Nst bad13 K1 (rowK (midK K K1 B0) Br l'):=nst_row hnst hxa (by rw [hx13]; rfl)
  have hfix2 : (rowK (midK K K1 B0) Br l').fix Br o (so.map (encR rest)).flatten:=by
   refine ⟨l',by simp [rowK],?_⟩
   rw [flat_len13 _ henc,hsl,← flatK_list _ henc]
   apply List.ext_getElem?
   intro j
   by_cases hj : j < ks.length * 13
   ·rw [List.getElem?_take_of_lt hj,List.getElem?_drop,hl',List.getElem?_take_of_lt (by omega)]
    have hj2 : j < (flatK (encR rest) 13 so.toArray).size:=by rw [size_flatK,List.size_toArray,hsl]; exact hj
    simp only [Array.getElem?_toList,putCells,Array.getElem?_mapIdx]
    rw [Array.getElem?_eq_getElem (by omega),Option.map_some,if_pos ⟨by omega,by omega⟩,show o + j - o = j by omega,Array.getElem?_eq_getElem hj2,getElem!_pos _ j hj2]
    rfl
   ·rw [List.getElem?_eq_none (by rw [List.length_take]; omega),List.getElem?_eq_none (by simp only [Array.length_toList,size_flatK,List.size_toArray,hsl]; omega)]
  have hrow : ∀ (l : List Str),(∀ k ∈ l,k ∈ ks) → RepLL (rowK (midK K K1 B0) Br l') (l.map fun k => rowFor k ks rows) (l.map (encR rest)).flatten:=by
   intro l
   induction l with
   | nil => intro _; simp [RepLL]
   | cons k l ih =>
    intro hl
    simp only [List.map_cons,List.flatten_cons,RepLL]
    refine ⟨_,_,rfl,?_,ih (fun k hk => hl k (List.mem_cons_of_mem _ hk))⟩
    obtain ⟨i,hi⟩:=List.getElem?_of_mem (hl k List.mem_cons_self)
    obtain ⟨u,hu,he,hr,hmem⟩:=hkey i k hi
    rw [he]
    exact RepL.nest hnst2 _ _ hr (nestLL_mem c3 _ hmem)
  have hres : Rep (rowK (midK K K1 B0) Br l') (.list 13 .dead (sortRows ks rows)) (a1.tmps.getD 5 Go.undef):=by
   rw [hsv]
   simp only [Rep,sortRows,← hso]
   refine ⟨some ⟨Br,o,none⟩,cap,by rw [List.length_map,hsl,hkl],by rw [List.length_map,hsl,hkl]; exact hcap,fun r hr => ?_,.inr ⟨Br,o,_,rfl,hfix2,hrow so hsm,fun x hx => by simp [rowK] at hx,trivial⟩⟩
   obtain ⟨k,hk,rfl⟩:=List.mem_map.1 hr
   obtain ⟨i,hi⟩:=List.getElem?_of_mem (hsm k hk)
   obtain ⟨u,hu,he,-,hmem⟩:=hkey i k hi
   exact hrs _ hmem
  have hE4 : EnvRep (rowK (midK K K1 B0) Br l') (eget [(4,.list 13 .dead (sortRows ks rows))]) a'.tmps:=by
   intro t v hv
   simp only [eget] at hv
   split at hv
   ·rename_i e
    subst e
    simp only [Option.some.injEq] at hv
    subst hv
    refine ⟨by omega,?_⟩
    rw [ha4,← hsv]
    exact hres
   ·cases hv
  obtain ⟨u,hu,hr⟩:=results_sim (P:=Tryz.prog) (g:=Tryz.f37) (rs:=[.tmp 4]) R2 hE4 (by kernel_rfl) rfl
  exact ⟨hda,u,hu,_,R2,hst2,⟨Nat.le_refl _,fun _ _ h => h,fun h => h⟩,u,rfl,hr⟩
 ·
  split at hp
  case isFalse => simp at hp
  rename_i c4
  simp only [Option.some.injEq,Prod.mk.injEq] at hp
  obtain ⟨rfl,rfl⟩:=hp
  obtain ⟨Rb,Rm,hstm,hnst⟩:=rel_mid R hB0 hcs hBm hes hint hw0 e2 hst R1 c4
  have hres:=Rep.nest hnst _ _ hr5 rfl
  simp only [Rep] at hr5
  obtain ⟨base,cap,hsv,-⟩:=hr5
  refine tail37_wp _ _ _ a1 w1 hsz60 hdf hsv (sort72_none base cap _ w1) ?_
  rintro a' w' hda ha60 ha4 rfl
  have hE4 : EnvRep (midK K K1 B0) (eget [(4,.list 0 .full [])]) a'.tmps:=by
   intro t v hv
   simp only [eget] at hv
   split at hv
   ·rename_i e
    subst e
    simp only [Option.some.injEq] at hv
    subst hv
    refine ⟨by omega,?_⟩
    rw [ha4,← hsv]
    exact hres
   ·cases hv
  obtain ⟨u,hu,hr⟩:=results_sim (P:=Tryz.prog) (g:=Tryz.f37) (rs:=[.tmp 4]) Rm hE4 (by kernel_rfl) rfl
  exact ⟨hda,u,hu,_,Rm,hstm _,⟨Nat.le_refl _,fun _ _ h => h,fun h => h⟩,u,rfl,hr⟩
 ·simp at hp
end Go.Proofs.YtmeakjgbjldkdaaGreat.Ai
namespace Go.Proofs.YtmeakjgbjldkdaaGreat.Ai
open Go
noncomputable def PrD : Prims:=fun n => match n with
 | 37 => some methP
 | n => PrC n
theorem prD_mono : Mono PrD:=by
 intro f p hp
 unfold PrD at hp
 split at hp
 ·simp only [Option.some.injEq] at hp; subst hp; exact methP_mono
 ·exact prC_mono _ _ hp
theorem prD_sim : ∀ f p,PrD f = some p → PrimSim Tryz.prog f p:=by
 intro f p hp
 unfold PrD at hp
 split at hp
 ·simp only [Option.some.injEq] at hp; subst hp; exact meth_sim
 ·exact prC_sim _ _ hp
theorem joinD_det {F : Nat → Option IFn} (l : List Str) (sep : Str) (v : AV) (H : List Blk) (rw : List Nat) (hv : IsL 1 v (l.map nmRow)) (hl : (l.map fun x => x.length + sep.length).sum ≤ 2147483648) (hs : 0 < sep.length) :
  Det PrD F 54 [v,.str sep] ⟨H,rw⟩ (.ret (.str (joinT sep l))) ⟨H,rw⟩:=by
 obtain ⟨z,tg,rfl,-,-⟩:=hv.ex
 obtain ⟨h1,h2⟩:=sum_len sep.length hs l
 refine det_run prD_mono (n:=1) ?_
 show joinP (callN PrD F 0) [.list z tg (l.map nmRow),.str sep] ⟨H,rw⟩ = _
 simp only [joinP,strs_nm]
 rw [if_pos ⟨by omega,by omega⟩]
theorem ckr {f : Nat} {g : Func} {fn fn' : IFn} (hg : Tryz.prog.funcs[f]? = some g) (hc : chkFn Tryz.prog g fn = true) (h : some fn = some fn') : ∃ g,Tryz.prog.funcs[f]? = some g ∧ chkFn Tryz.prog g fn' = true:=by
 cases h
 exact ⟨g,hg,hc⟩
theorem to_rowD {F : Nat → Option IFn} (hF : ∀ f fn,F f = some fn → ∃ g,Tryz.prog.funcs[f]? = some g ∧ chkFn Tryz.prog g fn = true) {f : Nat} {vs : List AV} {us : List Value} (hf : PrD f = none) (h : Wp PrD F f vs S0 TrueQ) (ha : RepT K0 vs us) (w : World) :
  Calls Tryz.prog f us.toArray w fun e w' => e = .returned (.bool true) ∧ RowKit.Below w.heap.size w w':=by
 obtain ⟨n,r,S',h1,rfl⟩:=h
 exact to_calls prD_sim (fun f fn _ h => hF f fn h) hf (callN_le prD_mono n _ _ _ _ h1) ha w
end Go.Proofs.YtmeakjgbjldkdaaGreat.Ai
namespace Go.Proofs.YtmeakjgbjldkdaaGreat.Ai
open Go
variable {pr : Prims} {F : Nat → Option IFn}
structure LibN (pr : Prims) (F : Nat → Option IFn) : Prop extends LibM pr F where
 p37 : pr 37 = some methP
theorem ne_lst {sz : Nat} {rows : List (List AV)} (h : bad13 sz = false) (hr : nestLL bad13 rows = true) : nest1 bad13 (lst sz rows) = true:=by
 cases rows with
 | nil => rfl
 | cons r rs =>
  simp only [lst,nest1,h,Bool.not_false,Bool.true_and]
  exact hr
theorem ne_app (bad : Nat → Bool) : ∀ (a b : List AV),nestL bad (a ++ b) = (nestL bad a && nestL bad b)
 | [],b => by simp [nestL]
 | x :: a,b => by simp only [List.cons_append,nestL,ne_app bad a b,Bool.and_assoc]
theorem ne_map {α : Type} (f : α → List AV) (h : ∀ x,nestL bad13 (f x) = true) : ∀ l : List α,nestLL bad13 (l.map f) = true
 | [] => rfl
 | x :: l => by simp only [List.map_cons,nestLL,h,ne_map f h l,Bool.and_self]
mutual
theorem ne_ty : ∀ t : Ty,nestL bad13 (tyRow t) = true
 | .mk kind name null elem pred at_ => by simp only [tyRow,nestL,nest1,ne_lst (sz:=6) rfl (ne_tys elem),ne_lst (sz:=5) rfl (ne_exs pred),Bool.and_self]
theorem ne_tys : ∀ ts : List Ty,nestLL bad13 (tyRows ts) = true
 | [] => by simp only [tyRows,nestLL]
 | t :: ts => by simp only [tyRows,nestLL,ne_ty t,ne_tys ts,Bool.and_self]
theorem ne_ex : ∀ t : Xp,nestL bad13 (exRow t) = true
 | .mk op name args ty at_ => by simp only [exRow,nestL,nest1,ne_lst (sz:=6) rfl (ne_tys ty),ne_lst (sz:=5) rfl (ne_exs args),Bool.and_self]
theorem ne_exs : ∀ ts : List Xp,nestLL bad13 (exRows ts) = true
 | [] => by simp only [exRows,nestLL]
 | t :: ts => by simp only [exRows,nestLL,ne_ex t,ne_exs ts,Bool.and_self]
end
mutual
theorem ne_sm : ∀ t : Sm,nestL bad13 (smRow t) = true
 | .mk kind name ty exs body els at_ => by simp only [smRow,nestL,nest1,ne_lst (sz:=6) rfl (ne_tys ty),ne_lst (sz:=5) rfl (ne_exs exs),ne_lst (sz:=7) rfl (ne_sms body),ne_lst (sz:=7) rfl (ne_sms els),Bool.and_self]
theorem ne_sms : ∀ ts : List Sm,nestLL bad13 (smRows ts) = true
 | [] => by simp only [smRows,nestLL]
 | t :: ts => by simp only [smRows,nestLL,ne_sm t,ne_sms ts,Bool.and_self]
end
theorem ne_par (p : Par) : nestL bad13 (parRow p) = true:=by simp only [parRow,nestL,nest1,ne_app,ne_ty,Bool.and_self]
theorem ne_mth (p : Mth) : nestL bad13 (mthRow p) = true:=by simp only [mthRow,nestL,nest1,ne_app,ne_ty,ne_lst (sz:=7) rfl (ne_sms _),ne_lst (sz:=8) rfl (ne_map parRow ne_par _),Bool.and_self]
theorem ne_mem (s o : Str) (p : Mth) : nestL bad13 (memRow s o p) = true:=by simp only [memRow,nestL,nest1,ne_mth,Bool.and_self]
theorem ne_mems (l : List (Str × Str × Mth)) : nestLL bad13 (memRows l) = true:=ne_map (α:=Str × Str × Mth) (fun x => memRow x.1 x.2.1 x.2.2) (fun x => ne_mem x.1 x.2.1 x.2.2) l
def sigsM (l : List (Str × Str × Mth)) : List Str:=l.map (·.1)
def lookM (k : Str) : List (Str × Str × Mth) → Str × Str × Mth
 | [] => (k,[],mthZ)
 | x :: l => if x.1 = k then x else lookM k l
def sortM (l : List (Str × Str × Mth)) : List (Str × Str × Mth):=(sortB (sigsM l)).map fun k => lookM k l
def methS (cs : List Cls) (U : List (List Nat)) (s : Str) : List (Str × Str × Mth):=sortM (methF cs U s)
theorem keys_mems : ∀ l : List (Str × Str × Mth),keysOf (memRows l) = some (sigsM l)
 | [] => rfl
 | x :: l => by
  have ih:=keys_mems l
  show keysOf ((AV.str x.1 :: AV.str x.2.1 :: mthRow x.2.2) :: memRows l) = _
  unfold keysOf
  rw [ih]
  rfl
theorem rowFor_mems {k : Str} : ∀ {l : List (Str × Str × Mth)},k ∈ sigsM l → rowFor k (sigsM l) (memRows l) = memRow (lookM k l).1 (lookM k l).2.1 (lookM k l).2.2
 | [],h => by cases h
 | x :: l,h => by
  show rowFor k (x.1 :: sigsM l) (memRow x.1 x.2.1 x.2.2 :: memRows l) = _
  unfold rowFor lookM
  split
  ·rfl
  ·rename_i hne
   rcases List.mem_cons.1 h with rfl | h
   ·exact absurd rfl hne
   ·exact rowFor_mems h
theorem sortRows_mems (l : List (Str × Str × Mth)) : sortRows (sigsM l) (memRows l) = memRows (sortM l):=by
 unfold sortRows sortM memRows
 rw [List.map_map]
 refine List.map_congr_left fun k hk => ?_
 exact rowFor_mems ((sortB_perm _).mem_iff.1 hk)
theorem sigs_add (owner : Str) (out : List (Str × Str × Mth)) (m : Mth) (h : (sigsM out).Nodup) : (sigsM (addM owner out m)).Nodup:=by
 unfold addM
 split
 ·exact h
 ·rename_i hn
  unfold sigsM at *
  rw [List.map_append,List.nodup_append]
  refine ⟨h,by simp,fun a ha b hb => ?_⟩
  simp only [List.map_cons,List.map_nil,List.mem_singleton] at hb
  subst hb
  intro e
  subst e
  obtain ⟨x,hx,hxs⟩:=List.mem_map.1 ha
  exact hn (idxM_mem.2 ⟨x,hx,hxs⟩)
theorem sigs_addF (owner : Str) : ∀ (l : List Mth) (out : List (Str × Str × Mth)),(sigsM out).Nodup → (sigsM (l.foldl (addM owner) out)).Nodup
 | [],_,h => h
 | m :: l,out,h => sigs_addF owner l _ (sigs_add owner out m h)
theorem sigs_addC (cs : List Cls) : ∀ (l : List Nat) (out : List (Str × Str × Mth)),(sigsM out).Nodup → (sigsM (l.foldl (addC cs) out)).Nodup
 | [],_,h => h
 | i :: l,out,h => by
  refine sigs_addC cs l _ ?_
  unfold addC
  split
  ·exact sigs_addF _ _ _ h
  ·exact h
theorem sigs_meth (cs : List Cls) (U : List (List Nat)) (s : Str) : (sigsM (methF cs U s)).Nodup:=sigs_addC cs _ [] List.nodup_nil
theorem methF_len {cs : List Cls} {U : List (List Nat)} (hfw : Few cs) (hup : ∀ i l,U[i]? = some l → IsUps cs i l) (s : Str) : (methF cs U s).length ≤ 64 * (cs.length + 1):=by
 have h1:=addR_len hfw (roadsF cs U s) []
 have h2:=roads_len (cs:=cs) hup s
 have h3 : 64 * (roadsF cs U s).length ≤ 64 * (cs.length + 1):=Nat.mul_le_mul_left _ h2
 simp only [List.length_nil,Nat.zero_add] at h1
 exact Nat.le_trans h1 h3
theorem ints_mapOf : ∀ (k : Nat) (cs : List Cls),intsM (mapOf k cs) = true
 | _,[] => rfl
 | k,c :: cs => by
  have ih:=ints_mapOf (k + 1) cs
  simp only [mapOf,intsM,List.all_cons,Bool.true_and]
  exact ih
theorem det_methods (L : LibN pr F) {H : List Blk} {rw : List Nat} {n mb z zb : Nat} {tg tb : Tag} {cs : List Cls} {U : List (List Nat)} {o1 o2 o3 sl : AV} (T : TabU H n mb cs z tg zb tb U o1 o2 o3 sl) (hfw : Few cs) (hcl : closedL [o1,o2,o3,sl] = true) (s : Str) :
  ∃ (v : AV) (rw' : List Nat),IsL 13 v (memRows (methS cs U s)) ∧ Rx rw rw' ∧ Det pr F 37 [.ptr n 0,.str s] ⟨H,rw⟩ (.ret v) ⟨H,rw'⟩:=by
 have hm:=L.hm
 suffices h : Wp pr F 37 [.ptr n 0,.str s] ⟨H,rw⟩ fun r S' => ∃ (v : AV) (rw' : List Nat),IsL 13 v (memRows (methS cs U s)) ∧ Rx rw rw' ∧ r = .ret v ∧ S' = ⟨H,rw'⟩ by
  obtain ⟨r,S',hd,v,rw',h1,h2,rfl,rfl⟩:=h.det hm
  exact ⟨v,rw',h1,h2,hd⟩
 obtain ⟨nf,x,e,S1,hx,rfl,v,rw1,M,he,hg,hR,rfl⟩:=wx_pre37 L.toLibM (rw:=rw ++ [0]) T hfw s
 have htab : tabOk mb (tabR cs U z zb mb tg tb o1 o2 o3 sl) = true:=by
  simp only [closedL,Bool.and_true,Bool.and_eq_true] at hcl
  simp only [tabR,tabOk,List.all_cons,List.all_nil,closed1,hcl.1,hcl.2.1,hcl.2.2.1,hcl.2.2.2,beq_self_eq_true,Bool.or_true,Bool.true_or,Bool.and_self]
 have hT2:=T.keep (keep_n T.at_ M)
 have hmp : (hp H n (.cells (tabR cs U z zb mb tg tb o1 o2 o3 sl)) M)[mb]? = some (.map (mapOf 0 cs)):=hT2.mp
 have hkey : ∀ res,methEnd ⟨H,rw⟩ mb (mapOf 0 cs) v ⟨hp H n (.cells (tabR cs U z zb mb tg tb o1 o2 o3 sl)) M,rw1⟩ = some res → callN pr F (nf + 1) 37 [.ptr n 0,.str s] ⟨H,rw⟩ = some res:=by
  intro res hres
  simp only [callN,L.p37]
  unfold methP
  have h1 : H[n]? = some (.cells (tabR cs U z zb mb tg tb o1 o2 o3 sl)):=T.at_
  have h2 : ((tabR cs U z zb mb tg tb o1 o2 o3 sl)[1]? : Option AV) = some (.map mb):=rfl
  have h3 : H[mb]? = some (.map (mapOf 0 cs)):=T.mp
  have h4:=exU_of (S:=⟨H,rw ++ [0]⟩) (cl':=callN pr F nf) (fun _ _ _ _ h => h) hx
  simp only [h1,h2,h3,if_pos (And.intro (ints_mapOf 0 cs) htab),h4,he]
  exact hres
 have hRr : Rx rw rw1:=((Rx.rfl).push 0).trans hR
 have hlen:=methF_len hfw T.ups s
 have hfew:=T.few
 rcases hg with ⟨h0,rfl⟩ | ⟨h0,r,rfl,h1,h2⟩
 ·have hz : methS cs U s = []:=by
   have : methF cs U s = []:=by
    have:=congrArg List.length h0
    rw [memRows_len] at this
    exact List.length_eq_zero_iff.1 this
   unfold methS
   rw [this]
   rfl
  refine ⟨nf + 1,.ret (.list 0 .full []),⟨H,rw1⟩,hkey _ ?_,_,rw1,?_,hRr,rfl,rfl⟩
  ·simp only [methEnd,hmp,if_true]
  ·rw [hz]
   exact IsL.nil
 ·have hsz : (rw ++ [0]).length = rw.length + 1:=by simp
  refine ⟨nf + 1,.ret (.list 13 .dead (memRows (methS cs U s))),⟨H,rw1⟩,hkey _ ?_,_,rw1,IsL.lit ?_,hRr,rfl,rfl⟩
  ·simp only [methEnd,keys_mems]
   rw [if_pos ⟨by omega,sigs_meth cs U s,ne_mems _,hmp,by rw [memRows_len]; omega,h0⟩,sortRows_mems,methS]
  ·intro h
   have:=congrArg List.length h
   rw [memRows_len] at this
   unfold methS sortM at this
   rw [List.length_map,sortB_length] at this
   apply h0
   apply List.length_eq_zero_iff.1
   rw [memRows_len]
   unfold sigsM at this
   rw [List.length_map] at this
   exact this
end Go.Proofs.YtmeakjgbjldkdaaGreat.Ai
namespace Go.Proofs.YtmeakjgbjldkdaaGreat.Ai
open Go
theorem mu_le {cs : List Cls} {U : List (List Nat)} (hup : ∀ i l,U[i]? = some l → IsUps cs i l) (i : Nat) : muU U i ≤ cs.length:=by
 unfold muU
 rw [List.getD_eq_getElem?_getD]
 cases hl : U[i]? with
 | none => simp
 | some l =>
  obtain ⟨bs,-,-,rfl⟩:=hup i l hl
  exact trues_len bs _
theorem chainL_stable {cs : List Cls} {U : List (List Nat)} (hU : U.length = cs.length) (hup : ∀ i l,U[i]? = some l → IsUps cs i l) (hl : Linked cs) (hok : ∀ c ∈ cs,okCls c) (hac : ∀ i,i < cs.length → ¬Up cs i i) :
  ∀ (k : Nat) (s : Str),(∀ i,place cs s = some i → muU U i < k) → chainL cs (k + 1) s = chainL cs k s:=by
 intro k
 induction k with
 | zero =>
  intro s h
  simp only [chainL]
  cases hp : place cs s with
  | none => rfl
  | some i => have:=h i hp; omega
 | succ k ih =>
  intro s h
  rw [chainL_eq,chainL_eq]
  cases hp : place cs s with
  | none => rfl
  | some i =>
   simp only [chainI]
   congr 1
   refine ih _ fun j hj => ?_
   have h1:=h i hp
   obtain ⟨c,hc,-⟩:=place_get hp
   have h2:=mu_lt hU hup hl hac (List.getElem?_eq_some_iff.1 hc).1 (sup_up hok hj)
   omega
theorem chainF_cons {cs : List Cls} {U : List (List Nat)} (hU : U.length = cs.length) (hup : ∀ i l,U[i]? = some l → IsUps cs i l) (hl : Linked cs) (hok : ∀ c ∈ cs,okCls c) (hac : ∀ i,i < cs.length → ¬Up cs i i)
  {s : Str} {i : Nat} (hp : place cs s = some i) : chainF cs s = i :: chainF cs (supOf cs i):=by
 unfold chainF
 rw [chainL_eq,hp]
 simp only [chainI]
 congr 1
 refine (chainL_stable hU hup hl hok hac cs.length _ fun j hj => ?_).symm
 obtain ⟨c,hc,-⟩:=place_get hp
 have h2:=mu_lt hU hup hl hac (List.getElem?_eq_some_iff.1 hc).1 (sup_up hok hj)
 have h3:=mu_le (cs:=cs) hup i
 omega
end Go.Proofs.YtmeakjgbjldkdaaGreat.Ai
namespace Go.Proofs.YtmeakjgbjldkdaaGreat.Ai
open Go
structure Cx (cs : List Cls) (U : List (List Nat)) : Prop where
 un : Unlike cs
 li : Linked cs
 ok : ∀ c ∈ cs,okCls c
 ac : ∀ i,i < cs.length → ¬Up cs i i
 ul : U.length = cs.length
 up : ∀ i l,U[i]? = some l → IsUps cs i l
 all : allOk cs U
theorem Cx.mem {cs : List Cls} {U : List (List Nat)} (X : Cx cs U) {i k : Nat} {c : Cls} (hc : cs[i]? = some c) : k ∈ U.getD i [] ↔ Up cs i k:=by
 have hi:=(List.getElem?_eq_some_iff.1 hc).1
 obtain ⟨u,hu⟩ : ∃ u,U[i]? = some u:=⟨_,List.getElem?_eq_getElem (by rw [X.ul]; exact hi)⟩
 rw [List.getD_eq_getElem?_getD,hu]
 exact ups_mem (X.up i u hu) X.li k
theorem Cx.ifc {cs : List Cls} {U : List (List Nat)} (X : Cx cs U) {i k : Nat} {c d : Cls} (hc : cs[i]? = some c) (hi : c.iface = true) (hk : k ∈ nxt cs i) (hd : cs[k]? = some d) : d.iface = true:=by
 have hcm:=List.mem_of_getElem? hc
 have hs : c.super = []:=by
  rcases (X.ok c hcm).2.1 with h | ⟨-,h⟩
  ·exact h
  ·rw [hi] at h; cases h
 unfold nxt at hk
 rw [hc] at hk
 simp only [nxtC,hs,if_true,List.nil_append] at hk
 obtain ⟨a,ha,rfl⟩:=List.mem_map.1 hk
 obtain ⟨j,d',h1,h2,h3⟩:=(X.li c hcm).2 a ha
 rw [h1] at hd
 simp only [Option.getD_some] at hd
 rw [h2] at hd
 simp only [Option.some.injEq] at hd
 subst hd
 exact h3
theorem Cx.ifcs {cs : List Cls} {U : List (List Nat)} (X : Cx cs U) {i k : Nat} (h : Up cs i k) : ∀ {c d : Cls},cs[i]? = some c → c.iface = true → cs[k]? = some d → d.iface = true:=by
 induction h with
 | one h1 => exact fun hc hi hd => X.ifc hc hi h1 hd
 | more h1 h2 ih =>
  intro c d hc hi hd
  rename_i j k
  obtain ⟨e,he⟩ : ∃ e,cs[j]? = some e:=⟨_,List.getElem?_eq_getElem (up_lt X.li h1)⟩
  exact X.ifc he (ih hc hi he) h2 hd
theorem Cx.sup {cs : List Cls} {U : List (List Nat)} (X : Cx cs U) {i k : Nat} {c d : Cls} (hc : cs[i]? = some c) (hk : k ∈ nxt cs i) (hd : cs[k]? = some d) (hn : d.iface = false) : supOf cs i = d.name ∧ place cs d.name = some k:=by
 have hcm:=List.mem_of_getElem? hc
 refine ⟨?_,X.un k d hd⟩
 unfold nxt at hk
 rw [hc] at hk
 simp only [nxtC] at hk
 rcases List.mem_append.1 hk with hk | hk
 ·split at hk
  ·cases hk
  ·rename_i hs
   obtain ⟨j,d',h1,h2,h3⟩:=(X.li c hcm).1 hs
   simp only [List.mem_singleton,h1,Option.getD_some] at hk
   subst hk
   obtain ⟨c2,h4,h5⟩:=place_get h1
   rw [hd] at h4
   simp only [Option.some.injEq] at h4
   subst h4
   unfold supOf
   rw [hc,h5]
 ·obtain ⟨a,ha,rfl⟩:=List.mem_map.1 hk
  obtain ⟨j,d',h1,h2,h3⟩:=(X.li c hcm).2 a ha
  rw [h1] at hd
  simp only [Option.getD_some] at hd
  rw [h2] at hd
  simp only [Option.some.injEq] at hd
  subst hd
  rw [h3] at hn
  cases hn
theorem Cx.cons {cs : List Cls} {U : List (List Nat)} (X : Cx cs U) {i : Nat} {c : Cls} (hc : cs[i]? = some c) : chainF cs c.name = i :: chainF cs (supOf cs i):=
 chainF_cons X.ul X.up X.li X.ok X.ac (X.un i c hc)
theorem Cx.suffix {cs : List Cls} {U : List (List Nat)} (X : Cx cs U) {i a : Nat} (h : Up cs i a) : ∀ {c d : Cls},cs[i]? = some c → cs[a]? = some d → d.iface = false → ∃ pre,chainF cs c.name = pre ++ chainF cs d.name ∧ ∀ k ∈ pre,Up cs k a:=by
 induction h with
 | one h1 =>
  intro c d hc hd hn
  refine ⟨[i],?_,fun k hk => ?_⟩
  ·rw [X.cons hc,(X.sup hc h1 hd hn).1]
   rfl
  ·rw [List.mem_singleton] at hk
   subst hk
   exact .one h1
 | more h1 h2 ih =>
  intro c d hc hd hn
  rename_i j k
  obtain ⟨e,he⟩ : ∃ e,cs[j]? = some e:=⟨_,List.getElem?_eq_getElem (up_lt X.li h1)⟩
  have hen : e.iface = false:=by
   cases hb : e.iface with
   | false => rfl
   | true =>
    rw [X.ifc he hb h2 hd] at hn
    cases hn
  obtain ⟨pre,hp,hu⟩:=ih hc he hen
  refine ⟨pre ++ [j],?_,fun x hx => ?_⟩
  ·rw [hp,X.cons he,(X.sup he h2 hd hn).1]
   simp
  ·rcases List.mem_append.1 hx with hx | hx
   ·exact .more (hu x hx) h2
   ·rw [List.mem_singleton] at hx
    subst hx
    exact .one h2
theorem chain_up {cs : List Cls} (hok : ∀ c ∈ cs,okCls c) : ∀ (k : Nat) (s : Str) (j : Nat),j ∈ chainL cs k s → ∃ i,place cs s = some i ∧ (j = i ∨ Up cs i j)
 | 0,s,j,h => by cases h
 | k + 1,s,j,h => by
  simp only [chainL] at h
  cases hp : place cs s with
  | none => rw [hp] at h; cases h
  | some i =>
   rw [hp] at h
   refine ⟨i,rfl,?_⟩
   rcases List.mem_cons.1 h with h | h
   ·exact .inl h
   ·obtain ⟨i2,h2,h3⟩:=chain_up hok k _ j h
    have hu:=sup_up hok h2
    rcases h3 with rfl | h3
    ·exact .inr hu
    ·exact .inr (hu.trans h3)
theorem dsp_app {cs : List Cls} {sig : Str} : ∀ (a b : List Nat),dspF cs sig (a ++ b) = match dspF cs sig a with | some r => some r | none => dspF cs sig b
 | [],b => rfl
 | i :: a,b => by
  simp only [List.cons_append,dspF]
  cases ownF cs i sig with
  | some m => rfl
  | none => exact dsp_app a b
theorem dsp_mem {cs : List Cls} {sig : Str} {k : Nat} {m : Mth} : ∀ {l : List Nat},dspF cs sig l = some (k,m) → k ∈ l ∧ ownF cs k sig = some m
 | [],h => by cases h
 | i :: l,h => by
  simp only [dspF] at h
  cases ho : ownF cs i sig with
  | some x =>
   rw [ho] at h
   simp only [Option.some.injEq,Prod.mk.injEq] at h
   obtain ⟨rfl,rfl⟩:=h
   exact ⟨List.mem_cons_self,ho⟩
  | none =>
   rw [ho] at h
   obtain ⟨h1,h2⟩:=dsp_mem h
   exact ⟨List.mem_cons_of_mem _ h1,h2⟩
def inS (sig : Str) (out : List (Str × Str × Mth)) : Prop:=∃ y ∈ out,y.1 = sig
theorem addM_mem {owner : Str} {out : List (Str × Str × Mth)} {m : Mth} {x : Str × Str × Mth} : x ∈ addM owner out m ↔ x ∈ out ∨ (¬inS x.1 out ∧ sigT m.name m.params = x.1 ∧ m = x.2.2 ∧ x.2.1 = owner):=by
 unfold addM
 split
 ·rename_i h
  rw [idxM_mem] at h
  constructor
  ·exact .inl
  ·rintro (h1 | ⟨h1,h2,-⟩)
   ·exact h1
   ·exact absurd (h2 ▸ h) h1
 ·rename_i h
  rw [idxM_mem] at h
  rw [List.mem_append,List.mem_singleton]
  constructor
  ·rintro (h1 | rfl)
   ·exact .inl h1
   ·exact .inr ⟨h,rfl,rfl,rfl⟩
  ·rintro (h1 | ⟨h1,h2,h3,h4⟩)
   ·exact .inl h1
   ·right
    obtain ⟨a,b,c⟩:=x
    simp only at h2 h3 h4
    rw [h2,h3,h4]
theorem inS_addM {owner sig : Str} {out : List (Str × Str × Mth)} {m : Mth} : inS sig (addM owner out m) ↔ inS sig out ∨ sigT m.name m.params = sig:=by
 constructor
 ·rintro ⟨y,hy,rfl⟩
  rcases addM_mem.1 hy with h | ⟨-,h,-⟩
  ·exact .inl ⟨y,h,rfl⟩
  ·exact .inr h
 ·intro h
  by_cases hi : inS sig out
  ·obtain ⟨y,hy,hs⟩:=hi
   exact ⟨y,addM_mem.2 (.inl hy),hs⟩
  ·rcases h with h | h
   ·exact absurd h hi
   ·exact ⟨(sig,owner,m),addM_mem.2 (.inr ⟨hi,h,rfl,rfl⟩),rfl⟩
theorem addF_mem {owner : Str} {x : Str × Str × Mth} : ∀ {ms : List Mth} {out : List (Str × Str × Mth)},x ∈ ms.foldl (addM owner) out ↔ x ∈ out ∨ (¬inS x.1 out ∧ ownM x.1 ms = some x.2.2 ∧ x.2.1 = owner)
 | [],out => by simp [ownM]
 | m :: ms,out => by
  rw [List.foldl_cons,addF_mem,addM_mem,inS_addM]
  simp only [ownM]
  by_cases hs : sigT m.name m.params = x.1
  ·simp only [hs,or_true,not_true_eq_false,false_and,or_false,if_true,true_and,Option.some.injEq]
  ·simp only [hs,or_false,false_and,and_false,if_false]
theorem inS_addF {owner sig : Str} : ∀ {ms : List Mth} {out : List (Str × Str × Mth)},inS sig (ms.foldl (addM owner) out) ↔ inS sig out ∨ (ownM sig ms).isSome = true
 | [],out => by simp [ownM]
 | m :: ms,out => by
  rw [List.foldl_cons,inS_addF,inS_addM]
  simp only [ownM]
  by_cases hs : sigT m.name m.params = sig
  ·simp [hs]
  ·simp [hs]
theorem addR_mem {cs : List Cls} {x : Str × Str × Mth} : ∀ {l : List Nat} {out : List (Str × Str × Mth)},x ∈ l.foldl (addC cs) out ↔ x ∈ out ∨ (¬inS x.1 out ∧ ∃ j,dspF cs x.1 l = some (j,x.2.2) ∧ x.2.1 = nameAt cs j)
 | [],out => by simp [dspF]
 | i :: l,out => by
  rw [List.foldl_cons,addR_mem]
  simp only [dspF,addC,ownF]
  cases hc : cs[i]? with
  | none => simp
  | some c =>
   simp only
   rw [addF_mem,inS_addF]
   cases ho : ownM x.1 c.meths with
   | none => simp
   | some m =>
    simp only [Option.isSome_some,or_true,not_true_eq_false,false_and,or_false,Option.some.injEq,Prod.mk.injEq]
    constructor
    ·rintro (h | ⟨h1,h2,h3⟩)
     ·exact .inl h
     ·exact .inr ⟨h1,i,⟨rfl,h2⟩,by rw [h3,nameAt,hc]⟩
    ·rintro (h | ⟨h1,j,⟨rfl,h2⟩,h3⟩)
     ·exact .inl h
     ·exact .inr ⟨h1,h2,by rw [h3,nameAt,hc]⟩
theorem methF_mem {cs : List Cls} {U : List (List Nat)} {s : Str} {x : Str × Str × Mth} : x ∈ methF cs U s ↔ ∃ j,dispF cs U s x.1 = some (j,x.2.2) ∧ x.2.1 = nameAt cs j:=by
 unfold methF dispF
 rw [addR_mem]
 simp [inS]
theorem lookM_mem {k : Str} : ∀ {l : List (Str × Str × Mth)},k ∈ sigsM l → lookM k l ∈ l ∧ (lookM k l).1 = k
 | [],h => by cases h
 | x :: l,h => by
  unfold lookM
  split
  ·exact ⟨List.mem_cons_self,by assumption⟩
  ·rename_i hne
   rcases List.mem_cons.1 h with rfl | h
   ·exact absurd rfl hne
   ·obtain ⟨h1,h2⟩:=lookM_mem h
    exact ⟨List.mem_cons_of_mem _ h1,h2⟩
theorem lookM_of {x : Str × Str × Mth} : ∀ {l : List (Str × Str × Mth)},(sigsM l).Nodup → x ∈ l → lookM x.1 l = x
 | [],_,h => by cases h
 | y :: l,hn,h => by
  change (y.1 :: sigsM l).Nodup at hn
  rw [List.nodup_cons] at hn
  unfold lookM
  rcases List.mem_cons.1 h with rfl | h
  ·rw [if_pos rfl]
  ·rw [if_neg (fun e => hn.1 (by rw [e]; exact List.mem_map_of_mem h))]
   exact lookM_of hn.2 h
theorem sortM_mem {l : List (Str × Str × Mth)} (hn : (sigsM l).Nodup) {x : Str × Str × Mth} : x ∈ sortM l ↔ x ∈ l:=by
 unfold sortM
 rw [List.mem_map]
 constructor
 ·rintro ⟨k,hk,rfl⟩
  exact (lookM_mem ((sortB_perm _).mem_iff.1 hk)).1
 ·intro h
  exact ⟨x.1,(sortB_perm _).mem_iff.2 (List.mem_map_of_mem h),lookM_of hn h⟩
theorem methS_mem {cs : List Cls} {U : List (List Nat)} {s : Str} {x : Str × Str × Mth} : x ∈ methS cs U s ↔ ∃ j,dispF cs U s x.1 = some (j,x.2.2) ∧ x.2.1 = nameAt cs j:=by
 unfold methS
 rw [sortM_mem (sigs_meth cs U s)]
 exact methF_mem
theorem have_all {cs : List Cls} {U : List (List Nat)} (X : Cx cs U) {i a : Nat} {c d : Cls} (hc : cs[i]? = some c) (hd : cs[a]? = some d) (ha : Up cs i a) {x : Str × Str × Mth} (hx : x ∈ methS cs U d.name) :
  ∃ r : Nat × Mth,dispF cs U c.name x.1 = some r ∧ baseT r.2.result = baseT x.2.2.result:=by
 obtain ⟨j,hj,-⟩:=methS_mem.1 hx
 have hca : place cs c.name = some i:=X.un i c hc
 have hda : place cs d.name = some a:=X.un a d hd
 unfold dispF roadsF at hj
 rw [hda] at hj
 simp only [hd] at hj
 cases hif : d.iface with
 | true =>
  rw [hif,if_pos rfl] at hj
  obtain ⟨hjm,hjo⟩:=dsp_mem hj
  obtain ⟨e,he,hme,hse⟩:=ownF_get hjo
  have hu : Up cs i j ∧ e.iface = true:=by
   rcases List.mem_cons.1 hjm with rfl | hjm
   ·rw [hd] at he
    simp only [Option.some.injEq] at he
    subst he
    exact ⟨ha,hif⟩
   ·have h1:=(X.mem hd).1 hjm
    exact ⟨ha.trans h1,X.ifcs h1 hd hif he⟩
  obtain ⟨r,hr,hb⟩:=(X.all i c hc).2 j ((X.mem hc).2 hu.1) e he hu.2 _ hme
  exact ⟨r,by rw [← hse]; exact hr,hb⟩
 | false =>
  rw [hif] at hj
  simp only [Bool.false_eq_true,if_false] at hj
  obtain ⟨hjm,hjo⟩:=dsp_mem hj
  have hci : c.iface = false:=by
   cases hb : c.iface with
   | false => rfl
   | true =>
    rw [X.ifcs ha hc hb hd] at hif
    cases hif
  obtain ⟨pre,hp,hu⟩:=X.suffix ha hc hd hif
  have hdis : dispF cs U c.name x.1 = dspF cs x.1 (pre ++ chainF cs d.name):=by
   unfold dispF roadsF
   rw [hca]
   simp only [hc,hci,Bool.false_eq_true,if_false]
   rw [hp]
  rw [hdis,dsp_app,hj]
  cases hpr : dspF cs x.1 pre with
  | none => exact ⟨_,rfl,rfl⟩
  | some r =>
   obtain ⟨k,m⟩:=r
   refine ⟨_,rfl,?_⟩
   obtain ⟨hk,hko⟩:=dsp_mem hpr
   obtain ⟨e,he,hme,hse⟩:=ownF_get hko
   obtain ⟨i2,hi2,hji⟩:=chain_up X.ok _ _ j hjm
   rw [hda] at hi2
   simp only [Option.some.injEq] at hi2
   subst hi2
   have hkj : Up cs k j:=by
    rcases hji with rfl | h
    ·exact hu k hk
    ·exact (hu k hk).trans h
   obtain ⟨q,hq⟩:=List.getElem?_of_mem hme
   have:=((X.all k e he).1.2 q m hq).2 j ((X.mem he).2 hkj) x.2.2 (by rw [hse]; exact hjo)
   exact this.symm
end Go.Proofs.YtmeakjgbjldkdaaGreat.Ai
namespace Go.Proofs.YtmeakjgbjldkdaaGreat.Ai
open Go
variable {pr : Prims} {F : Nat → Option IFn}
structure LibO (pr : Prims) (F : Nat → Option IFn) : Prop extends LibN pr F where
 f7 : Has pr F 7 i7
 f8 : Has pr F 8 i8
theorem tab_cx {H : List Blk} {n mb z zb : Nat} {tg tb : Tag} {cs : List Cls} {U : List (List Nat)} {o1 o2 o3 sl : AV} (T : TabU H n mb cs z tg zb tb U o1 o2 o3 sl) (hall : allOk cs U) : Cx cs U:=⟨T.unlike,T.linked,T.okc,T.acyc,T.ulen,T.ups,hall⟩
theorem methS_len {cs : List Cls} {U : List (List Nat)} (hfw : Few cs) (hup : ∀ i l,U[i]? = some l → IsUps cs i l) (s : Str) : (methS cs U s).length ≤ 64 * (cs.length + 1):=by
 have:=methF_len hfw hup s
 unfold methS sortM sigsM
 rw [List.length_map,sortB_length,List.length_map]
 exact this
end Go.Proofs.YtmeakjgbjldkdaaGreat.Ai
namespace Go.Proofs.YtmeakjgbjldkdaaGreat.Ai
open Go
variable {pr : Prims} {F : Nat → Option IFn}
def ovM (nm : Str) (l : List (Str × Str × Mth)) : List (Str × Str × Mth):=l.filter fun x => x.2.2.name == nm
theorem ovM_snoc {nm : Str} {l : List (Str × Str × Mth)} {q : Nat} {x : Str × Str × Mth} (h : l[q]? = some x) : ovM nm (l.take (q + 1)) = ovM nm (l.take q) ++ (if x.2.2.name = nm then [x] else []):=by
 rw [take_snoc h]
 unfold ovM
 rw [List.filter_append]
 congr 1
 by_cases hn : x.2.2.name = nm
 ·simp [hn]
 ·simp [hn]
theorem ovM_len (nm : Str) (l : List (Str × Str × Mth)) : (ovM nm l).length ≤ l.length:=List.length_filter_le _ _
theorem mem_can (a b : Str) (m : Mth) : canonL ((memRow a b m).take 13) = memRow a b m:=by
 rw [List.take_of_length_le (Nat.le_of_eq (row_mem a b m).len),(row_mem a b m).can]
theorem det_overloads (L : LibN pr F) {H : List Blk} {rw : List Nat} {n mb z zb : Nat} {tg tb : Tag} {cs : List Cls} {U : List (List Nat)} {o1 o2 o3 sl : AV} (T : TabU H n mb cs z tg zb tb U o1 o2 o3 sl) (hfw : Few cs) (hcl : closedL [o1,o2,o3,sl] = true) (s nm : Str) :
  ∃ (v : AV) (rw' : List Nat),IsL 13 v (memRows (ovM nm (methS cs U s))) ∧ Rx rw rw' ∧ Det pr F 39 [.ptr n 0,.str s,.str nm] ⟨H,rw⟩ (.ret v) ⟨H,rw'⟩:=by
 have hm:=L.hm
 suffices h : Wp pr F 39 [.ptr n 0,.str s,.str nm] ⟨H,rw⟩ fun r S' => ∃ (v : AV) (rw' : List Nat),IsL 13 v (memRows (ovM nm (methS cs U s))) ∧ Rx rw rw' ∧ r = .ret v ∧ S' = ⟨H,rw'⟩ by
  obtain ⟨r,S',hd,v,rw',h1,h2,rfl,rfl⟩:=h.det hm
  exact ⟨v,rw',h1,h2,hd⟩
 have hlt : n < H.length:=(List.getElem?_eq_some_iff.1 T.at_).1
 have hfew:=T.few
 have hR : Rx rw rw:=Rx.rfl
 refine at_start_hp hm L.f39.1 L.f39.2 rfl (hp_of T.at_) ?_
 refine' stI
 obtain ⟨v,rw2,hv,hR2,hd⟩:=det_methods L (T.keep (keep_n T.at_ [])) hfw hcl s (rw:=rw)
 refine g_call rfl rfl rfl ?_
 refine c_det hd ?_
 clear hR hd
 refine zrk7 ?_
 obtain ⟨zv,tv,rfl,hzv,-⟩:=hv.ex
 have hml:=methS_len hfw T.ups s
 generalize methS cs U s = l at *
 have hll:=memRows_len l
 refine' stI
 refine at_loop hm (fun mm e S' => ∃ (q : Nat) (J : List Blk) (lv : AV) (rw3 : List Nat),S' = ⟨hp H n (.cells [.list z tg (cs.map clsRow),.map mb,.list zb tb (U.map upRow),o1,o2,o3,sl]) J,rw3⟩ ∧ q ≤ l.length ∧ Lst rw2 13 lv (memRows (ovM nm (l.take q))) rw3 ∧ Rx rw2 rw3 ∧ mm = l.length - q ∧
  e = [(2,.str nm),(7,lv),(12,.list zv tv (memRows l)),(13,.int .i64 ((memRows l).length : Int)),(14,.int .i64 q)]) ?_ (m:=l.length) ⟨0,[],_,rw2,rfl,by omega,Lst.nil,Rx.rfl,rfl,rfl⟩
 rintro mm e S' ⟨q,J,lv,rw3,rfl,hq0,hl,hR,rfl,rfl⟩
 by_cases hq1 : q < l.length
 ·obtain ⟨x,hx⟩ : ∃ x,l[q]? = some x:=⟨_,List.getElem?_eq_getElem hq1⟩
  have hxr:=memRows_get hx
  have hz1 : zv = 13:=hzv (by intro h; rw [h] at hll; simp only [List.length_nil] at hll; omega)
  subst hz1
  have hsn:=ovM_snoc (nm:=nm) hx
  have hol:=ovM_len nm (l.take q)
  have htk : (l.take q).length ≤ q:=by rw [List.length_take]; omega
  obtain ⟨xs,xo,mn,mp,⟨k1,t1,u1,e1,p1,a1⟩,bd,ab,at1⟩:=x
  simp only at hxr hsn
  refine' stI
  ·rw [if_pos (by assumption)] at hsn
   rw [mem_can]
   refine id_list ?_
   refine g_list rfl (vs:=[.agg (memRow xs xo ⟨mn,mp,.mk k1 t1 u1 e1 p1 a1,bd,ab,at1⟩)]) rfl ?_
   refine ls_1 (row_mem _ _ _) ?_
   refine' stI
   refine id_append ?_
   refine g_append rfl rfl rfl ?_
   refine ap_lst (row:=memRow xs xo ⟨mn,mp,.mk k1 t1 u1 e1 p1 a1,bd,ab,at1⟩) hl hR (by rw [memRows_len]; simp only [maxRow]; omega) (by rw [memRows_len]; simp only [maxRow]; omega) (by omega) ?_
   intro l4 rw4 hl4 hR4
   refine zrk7 ?_
   refine' stI
   refine ⟨l.length - (q + 1),by omega,q + 1,_,l4,rw4,rfl,by omega,?_,hR4,rfl,rfl⟩
   rw [hsn,memRows_snoc]
   exact hl4
  ·rw [if_neg (by assumption),List.append_nil] at hsn
   exact ⟨l.length - (q + 1),by omega,q + 1,_,lv,rw3,rfl,by omega,by rw [hsn]; exact hl,hR,rfl,rfl⟩
 ·refine' stI
  rw [show q = l.length by omega,List.take_length] at hl
  exact fin_ret rfl (hl.isL.below _) (hp_take hlt) ⟨lv,rw3,hl.isL,hR2.trans hR,rfl,st_of T.at_⟩
end Go.Proofs.YtmeakjgbjldkdaaGreat.Ai
namespace Go.Proofs.YtmeakjgbjldkdaaGreat.Ai
open Go
variable {pr : Prims} {F : Nat → Option IFn}
theorem disp_base (L : LibE pr F) {cs : List Cls} {U : List (List Nat)} (hw : wL wCls cs ≤ 42000000) (hok : ∀ c ∈ cs,okCls c) {s sig : Str} {r : Nat × Mth} (h : dispF cs U s sig = some r) : TxOk pr F 15 [.agg (tyRow r.2.result)] (.str (baseT r.2.result)):=by
 obtain ⟨j,m⟩:=r
 exact own_base L hw hok (dsp_mem h).2
theorem ovM_at {nm : Str} : ∀ {l : List (Str × Str × Mth)} {q : Nat} {x : Str × Str × Mth},l[q]? = some x → x.2.2.name = nm → (ovM nm l)[(ovM nm (l.take q)).length]? = some x
 | [],q,x,h,_ => by simp at h
 | y :: l,0,x,h,hn => by
  simp only [List.getElem?_cons_zero,Option.some.injEq] at h
  subst h
  unfold ovM
  simp [hn]
 | y :: l,q + 1,x,h,hn => by
  simp only [List.getElem?_cons_succ] at h
  have ih:=ovM_at h hn
  unfold ovM at *
  rw [List.take_succ_cons,List.filter_cons,List.filter_cons]
  split
  ·simpa using ih
  ·exact ih
theorem ovM_take (nm : Str) (l : List (Str × Str × Mth)) (q : Nat) : (ovM nm (l.take q)).length ≤ (ovM nm l).length:=by
 have h : ovM nm l = ovM nm (l.take q) ++ ovM nm (l.drop q):=by
  unfold ovM
  rw [← List.filter_append,List.take_append_drop]
 rw [h,List.length_append]
 omega
theorem wp_have (L : LibO pr F) {x nm : Str} {p : Prg} {ok : Bool} (hrd : RdOk pr F x p ok) (haw : ∀ S,Det pr F 13 [] S (.ret (.bool true)) S) (H : List Blk) (rw : List Nat) : Wp pr F 8 [.str x,.str nm] ⟨H,rw⟩ TrueQ:=by
 have hm:=L.hm
 have haw:=haw ⟨H,rw⟩
 refine at_start hm L.f8.1 L.f8.2 rfl ?_
 refine' hGO
 obtain ⟨r,S',hd,hN⟩:=(wp_table L.toLibF hrd H rw).det hm
 rcases hN with ⟨rw',hR,rfl,rfl⟩ | ⟨H',rw2,n,mb,z,zb,tg,tb,U,hK,hn,hR0,hle,T,hall,hfw,rfl,rfl⟩
 ·refine g_call rfl rfl rfl ?_
  refine c_det hd ?_
  refine zrk7 ?_
  refine' stI
  exact fin_true rfl
 obtain ⟨cs,mn⟩:=p
 simp only at hle T hall hfw hd
 have X:=tab_cx T hall
 have hlt : n < H'.length:=(List.getElem?_eq_some_iff.1 T.at_).1
 have hR : Rx rw2 rw2:=Rx.rfl
 have hlm : (cs.map clsRow).length = cs.length:=List.length_map _
 have hT:=fun M => T.keep (keep_n T.at_ M)
 refine g_call rfl rfl rfl ?_
 refine c_det hd ?_
 clear hd hR0
 rw [← st_of T.at_]
 refine zrk7 ?_
 refine' stI
 refine at_loop hm (fun mm e S' => ∃ (i : Nat) (J : List Blk) (rw' : List Nat),S' = ⟨hp H' n (.cells [.list z tg (cs.map clsRow),.map mb,.list zb tb (U.map upRow),.int .u32 0,.int .i32 0,.int .u32 0,.list 0 .full []]) J,rw'⟩ ∧ i ≤ cs.length ∧ mm = cs.length - i ∧
  e = [(1,.str nm),(5,.ptr n 0),(6,lst 9 (cs.map clsRow)),(7,.int .i64 i)]) ?_ (m:=cs.length) ⟨0,[],rw2,rfl,by omega,rfl,rfl⟩
 clear hR
 clear rw2
 rintro mm e S' ⟨i,J,rw3,rfl,hi0,rfl,rfl⟩
 have hR : Rx rw3 rw3:=Rx.rfl
 by_cases hi : i < cs.length
 ·obtain ⟨c,hc⟩ : ∃ c,cs[i]? = some c:=⟨_,List.getElem?_eq_getElem hi⟩
  obtain ⟨u,hu⟩ : ∃ u,U[i]? = some u:=⟨_,List.getElem?_eq_getElem (by rw [T.ulen]; exact hi)⟩
  have hcr : (cs.map clsRow)[i]? = some (clsRow c):=by rw [List.getElem?_map,hc]; rfl
  have hl9 : lst 9 (cs.map clsRow) = .list 9 .dead (cs.map clsRow):=lst_of_lt (i:=i) (by omega)
  have hau : aboveF cs U c.name = u:=by
   rw [aboveF,T.unlike i c hc]
   simp only [List.getD_eq_getElem?_getD,hu,Option.getD_some]
  have hum : ∀ a ∈ u,Up cs i a:=fun a ha => (ups_mem (T.ups i u hu) T.linked a).1 ha
  rw [hl9]
  refine' stI
  obtain ⟨v,rw4,hvA,hR4,hd4⟩:=det_aboveT L.toLibG (hT J) c.name (rw:=rw3)
  rw [hau] at hvA
  obtain ⟨za,tga,rfl,hza,-⟩:=hvA.ex
  refine g_call rfl rfl rfl ?_
  refine c_det hd4 ?_
  clear hd4 hR hR4
  refine zrk7 ?_
  refine' stI
  have hul : u.length ≤ cs.length:=by
   obtain ⟨bs,-,-,hu2⟩:=T.ups i u hu
   rw [hu2]
   exact trues_len _ _
  have hlu : (namesAt cs u).length = u.length:=by rw [namesAt,List.length_map]
  have hlu2 : ((namesAt cs u).map nmRow).length = u.length:=by rw [List.length_map,hlu]
  refine at_loop hm (fun mm e S' => ∃ (k : Nat) (J : List Blk) (rw' : List Nat),S' = ⟨hp H' n (.cells [.list z tg (cs.map clsRow),.map mb,.list zb tb (U.map upRow),.int .u32 0,.int .i32 0,.int .u32 0,.list 0 .full []]) J,rw'⟩ ∧ k ≤ u.length ∧ mm = u.length - k ∧
   e = [(1,.str nm),(5,.ptr n 0),(6,.list 9 .dead (cs.map clsRow)),(7,.int .i64 i),(8,.list za tga ((namesAt cs u).map nmRow)),(9,.int .i64 k)]) ?_ (m:=u.length) ⟨0,J,rw4,rfl,by omega,rfl,rfl⟩
  clear rw4
  rintro mm e S' ⟨k,J,rw4,rfl,hk0,rfl,rfl⟩
  have hR : Rx rw4 rw4:=Rx.rfl
  by_cases hk : k < u.length
  ·obtain ⟨a,hka⟩ : ∃ a,u[k]? = some a:=⟨_,List.getElem?_eq_getElem hk⟩
   have hup:=hum a (List.mem_of_getElem? hka)
   obtain ⟨d,hd⟩ : ∃ d,cs[a]? = some d:=⟨_,List.getElem?_eq_getElem (up_lt T.linked hup)⟩
   have hnr : ((namesAt cs u).map nmRow)[k]? = some (nmRow d.name):=by
    rw [List.getElem?_map,namesAt,List.getElem?_map,hka]
    simp only [Option.map_some,nameAt,hd]
   have hz1 : za = 1:=hza (by intro h; rw [h] at hnr; simp at hnr)
   subst hz1
   refine' stI
   obtain ⟨v,rw5,hvM,hR5,hd5⟩:=det_methods L.toLibN (hT J) hfw rfl d.name (rw:=rw4)
   obtain ⟨zm,tm,rfl,hzm,-⟩:=hvM.ex
   refine g_call rfl rfl rfl ?_
   refine c_det hd5 ?_
   clear hd5 hR hR5
   refine zrk7 ?_
   have hml:=methS_len hfw T.ups d.name
   have hmm : ∀ y ∈ methS cs U d.name,∃ r : Nat × Mth,dispF cs U c.name y.1 = some r ∧ baseT r.2.result = baseT y.2.2.result:=fun y hy => have_all X hc hd hup hy
   have hmb : ∀ y ∈ methS cs U d.name,TxOk pr F 15 [.agg (tyRow y.2.2.result)] (.str (baseT y.2.2.result)):=fun y hy => by
    obtain ⟨j,hj,-⟩:=methS_mem.1 hy
    exact disp_base L.toLibE T.wt T.okc hj
   generalize methS cs U d.name = l at *
   have hll:=memRows_len l
   refine' stI
   refine at_loop hm (fun mm e S' => ∃ (q : Nat) (J : List Blk) (rw' : List Nat),S' = ⟨hp H' n (.cells [.list z tg (cs.map clsRow),.map mb,.list zb tb (U.map upRow),.int .u32 0,.int .i32 0,.int .u32 0,.list 0 .full []]) J,rw'⟩ ∧ q ≤ l.length ∧ mm = l.length - q ∧
    e = [(1,.str nm),(5,.ptr n 0),(6,.list 9 .dead (cs.map clsRow)),(7,.int .i64 i),(8,.list 1 tga ((namesAt cs u).map nmRow)),(9,.int .i64 k),(10,.list zm tm (memRows l)),(11,.int .i64 q)]) ?_ (m:=l.length) ⟨0,J,rw5,rfl,by omega,rfl,rfl⟩
   clear rw5
   rintro mm e S' ⟨q,J,rw5,rfl,hq0,rfl,rfl⟩
   have hR : Rx rw5 rw5:=Rx.rfl
   by_cases hq1 : q < l.length
   ·obtain ⟨y,hy⟩ : ∃ y,l[q]? = some y:=⟨_,List.getElem?_eq_getElem hq1⟩
    have hyr:=memRows_get hy
    have hym:=List.mem_of_getElem? hy
    have hz1 : zm = 13:=hzm (by intro h; rw [h] at hll; simp only [List.length_nil] at hll; omega)
    subst hz1
    obtain ⟨r,hr,hrb⟩:=hmm y hym
    have htx1:=disp_base L.toLibE T.wt T.okc hr
    have htx2:=hmb y hym
    obtain ⟨ys,yo,ym⟩:=y
    obtain ⟨mn,mp,⟨k1,t1,u1,e1,p1,a1⟩,bd,ab,at1⟩:=ym
    simp only at hyr htx2 hrb hr
    refine' stI
    obtain ⟨rw6,hR6,hd6⟩:=det_dispatch L.toLibE (hT (J ++ [.cells (memRow [] [] mthZ)])) c.name ys (rw:=rw5)
    rw [hr] at hd6
    refine g_call rfl rfl rfl ?_
    refine c_det hd6 ?_
    refine zrk7 ?_
    clear hd6 hR hR6
    obtain ⟨j,x⟩:=r
    have hR : Rx rw6 rw6:=Rx.rfl
    simp only at htx1 hrb
    simp only [dspRes,dspRow,Option.isSome_some]
    have hrm:=row_mem ys (nameAt cs j) x
    refine' stI
    exact ⟨l.length - (q + 1),by omega,q + 1,_,_,rfl,by omega,rfl,rfl⟩
   ·refine' stI
    exact ⟨u.length - (k + 1),by omega,k + 1,_,rw5,rfl,by omega,rfl,rfl⟩
  ·refine' stI
   obtain ⟨vo,rw5,hvO,hR5,hd5⟩:=det_overloads L.toLibN (hT J) hfw rfl c.name nm (rw:=rw4)
   obtain ⟨zo,to,rfl,hzo,-⟩:=hvO.ex
   refine g_call rfl rfl rfl ?_
   refine c_det hd5 ?_
   clear hd5 hR hR5
   refine zrk7 ?_
   refine' stI
   obtain ⟨vm,rw6,hvM,hR6,hd6⟩:=det_methods L.toLibN (hT J) hfw rfl c.name (rw:=rw5)
   obtain ⟨zm,tm,rfl,hzm,-⟩:=hvM.ex
   refine g_call rfl rfl rfl ?_
   refine c_det hd6 ?_
   clear hd6 hR6
   refine zrk7 ?_
   have hml:=methS_len hfw T.ups c.name
   generalize methS cs U c.name = l at *
   have hll:=memRows_len l
   have hlo:=memRows_len (ovM nm l)
   have hol:=ovM_len nm l
   refine' stI
   refine at_loop hm (fun mm e S' => ∃ (q N : Nat) (rw' : List Nat),N = (ovM nm (l.take q)).length ∧ S' = ⟨hp H' n (.cells [.list z tg (cs.map clsRow),.map mb,.list zb tb (U.map upRow),.int .u32 0,.int .i32 0,.int .u32 0,.list 0 .full []]) J,rw'⟩ ∧ q ≤ l.length ∧ mm = l.length - q ∧
    e = [(1,.str nm),(5,.ptr n 0),(6,.list 9 .dead (cs.map clsRow)),(7,.int .i64 i),(14,.int .i64 N),(15,.list zo to (memRows (ovM nm l))),(16,.list zm tm (memRows l)),(17,.int .i64 q)]) ?_ (m:=l.length) ⟨0,0,rw6,rfl,rfl,by omega,rfl,rfl⟩
   clear rw6
   rintro mm e S' ⟨q,N,rw6,hN,rfl,hq0,rfl,rfl⟩
   have hR : Rx rw6 rw6:=Rx.rfl
   by_cases hq1 : q < l.length
   ·obtain ⟨y,hy⟩ : ∃ y,l[q]? = some y:=⟨_,List.getElem?_eq_getElem hq1⟩
    have hyr:=memRows_get hy
    have hz1 : zm = 13:=hzm (by intro h; rw [h] at hll; simp only [List.length_nil] at hll; omega)
    subst hz1
    have hsn:=ovM_snoc (nm:=nm) hy
    have hat:=ovM_at (nm:=nm) hy
    have hNl:=ovM_take nm l q
    rw [← hN] at hat hNl
    obtain ⟨ys,yo,ym⟩:=y
    obtain ⟨mn,mp,⟨k1,t1,u1,e1,p1,a1⟩,bd,ab,at1⟩:=ym
    simp only at hyr hsn hat
    by_cases hnm : mn = nm
    ·rw [if_pos hnm] at hsn
     have hat2:=memRows_get (hat hnm)
     have hat3:=(List.getElem?_eq_some_iff.1 (hat hnm)).1
     have hz1 : zo = 13:=hzo (by intro h; rw [h] at hat2; simp at hat2)
     subst hz1
     simp only at hat2
     have hN2 : N + 1 = (ovM nm (l.take (q + 1))).length:=by rw [hsn,List.length_append,← hN]; rfl
     clear hsn hat
     refine' stI
     exact ⟨l.length - (q + 1),by omega,q + 1,N + 1,rw6,hN2,rfl,by omega,rfl,rfl⟩
    ·rw [if_neg hnm,List.append_nil] at hsn
     rw [← hsn] at hN
     clear hsn hat
     refine' stI
     exact ⟨l.length - (q + 1),by omega,q + 1,N,rw6,hN,rfl,by omega,rfl,rfl⟩
   ·rw [show q = l.length by omega,List.take_length] at hN
    refine' stI
    exact ⟨cs.length - (i + 1),by omega,i + 1,_,rw6,rfl,by omega,rfl,rfl⟩
 ·refine' stI
  exact fin_true rfl
end Go.Proofs.YtmeakjgbjldkdaaGreat.Ai
namespace Go.Proofs.YtmeakjgbjldkdaaGreat.Ai
open Go
noncomputable def FA3 : Nat → Option IFn:=fun n => match n with
 | 7 => some i7
 | 8 => some i8
 | 38 => some i38
 | 39 => some i39
 | 70 => some i70
 | 71 => some i71
 | 75 => some i75
 | 112 => some i112
 | n => FA n
theorem fa3_chk : ∀ f fn,FA3 f = some fn → ∃ g,Tryz.prog.funcs[f]? = some g ∧ chkFn Tryz.prog g fn = true:=by
 intro f fn h
 unfold FA3 at h
 split at h
 ·exact ckr Tryz.func7 c7 h
 ·exact ckr Tryz.func8 c8 h
 ·exact ckr Tryz.func38 c38 h
 ·exact ckr Tryz.func39 c39 h
 ·exact ckr Tryz.func70 c70 h
 ·exact ckr Tryz.func71 c71 h
 ·exact ckr Tryz.func75 c75 h
 ·exact ckr Tryz.func112 c112 h
 ·exact fa_chk _ _ h
theorem libO : LibO PrD FA3 where
 hm:=prD_mono
 f89:=⟨rfl,rfl⟩
 f130:=⟨rfl,rfl⟩
 f131:=⟨rfl,rfl⟩
 f132:=⟨rfl,rfl⟩
 f133:=⟨rfl,rfl⟩
 f190:=⟨rfl,rfl⟩
 f191:=⟨rfl,rfl⟩
 f226:=⟨rfl,rfl⟩
 f243:=⟨rfl,rfl⟩
 f90:=⟨rfl,rfl⟩
 f93:=⟨rfl,rfl⟩
 f95:=⟨rfl,rfl⟩
 f134:=⟨rfl,rfl⟩
 f135:=⟨rfl,rfl⟩
 f136:=⟨rfl,rfl⟩
 f140:=⟨rfl,rfl⟩
 f192:=⟨rfl,rfl⟩
 f193:=⟨rfl,rfl⟩
 f195:=⟨rfl,rfl⟩
 f201:=⟨rfl,rfl⟩
 f227:=⟨rfl,rfl⟩
 f228:=⟨rfl,rfl⟩
 f244:=⟨rfl,rfl⟩
 f245:=⟨rfl,rfl⟩
 f253:=⟨rfl,rfl⟩
 f94:=⟨rfl,rfl⟩
 f141:=⟨rfl,rfl⟩
 f196:=⟨rfl,rfl⟩
 f197:=⟨rfl,rfl⟩
 f137:=⟨rfl,rfl⟩
 f194:=⟨rfl,rfl⟩
 f139:=⟨rfl,rfl⟩
 f138:=⟨rfl,rfl⟩
 f91:=⟨rfl,rfl⟩
 f92:=⟨rfl,rfl⟩
 f51:=⟨rfl,rfl⟩
 f19:=⟨rfl,rfl⟩
 f15:=⟨rfl,rfl⟩
 f17:=⟨rfl,rfl⟩
 f20:=⟨rfl,rfl⟩
 f26:=⟨rfl,rfl⟩
 f30:=⟨rfl,rfl⟩
 f56:=⟨rfl,rfl⟩
 f64:=⟨rfl,rfl⟩
 f65:=⟨rfl,rfl⟩
 f66:=⟨rfl,rfl⟩
 f100:=⟨rfl,rfl⟩
 f101:=⟨rfl,rfl⟩
 f102:=⟨rfl,rfl⟩
 f103:=⟨rfl,rfl⟩
 f104:=⟨rfl,rfl⟩
 f105:=⟨rfl,rfl⟩
 f106:=⟨rfl,rfl⟩
 f149:=⟨rfl,rfl⟩
 f150:=⟨rfl,rfl⟩
 f151:=⟨rfl,rfl⟩
 f16:=⟨rfl,rfl⟩
 f18:=⟨rfl,rfl⟩
 f21:=⟨rfl,rfl⟩
 f53:=⟨rfl,rfl⟩
 f57:=⟨rfl,rfl⟩
 f204:=⟨rfl,rfl⟩
 f52:=⟨rfl,rfl⟩
 f96:=⟨rfl,rfl⟩
 f97:=⟨rfl,rfl⟩
 f127:=⟨rfl,rfl⟩
 f142:=⟨rfl,rfl⟩
 f143:=⟨rfl,rfl⟩
 f144:=⟨rfl,rfl⟩
 f145:=⟨rfl,rfl⟩
 f146:=⟨rfl,rfl⟩
 f198:=⟨rfl,rfl⟩
 f199:=⟨rfl,rfl⟩
 f200:=⟨rfl,rfl⟩
 f229:=⟨rfl,rfl⟩
 f55:=⟨rfl,rfl⟩
 f23:=⟨rfl,rfl⟩
 f33:=⟨rfl,rfl⟩
 f34:=⟨rfl,rfl⟩
 f35:=⟨rfl,rfl⟩
 f36:=⟨rfl,rfl⟩
 f68:=⟨rfl,rfl⟩
 f69:=⟨rfl,rfl⟩
 f111:=⟨rfl,rfl⟩
 f38:=⟨rfl,rfl⟩
 f39:=⟨rfl,rfl⟩
 f70:=⟨rfl,rfl⟩
 f71:=⟨rfl,rfl⟩
 f75:=⟨rfl,rfl⟩
 f112:=⟨rfl,rfl⟩
 f7:=⟨rfl,rfl⟩
 f8:=⟨rfl,rfl⟩
 rd:=fun x => ⟨thePrg x,theOk x,(the_spec x).1,fun _H _rw => det_run prD_mono (n:=1) rfl⟩
 join:=joinD_det
 awake:=fun _S => det_run prD_mono (n:=1) rfl
 p37:=rfl
end Go.Proofs.YtmeakjgbjldkdaaGreat.Ai
namespace Go.Proofs.YtmeakjgbjldkdaaGreat
open Go.ChangeShapes Go.WideShapes Go.ChangeAt Go.RowKit
open Go.ChangeMaps (open_string shut_string)
theorem Tryz.own : ownKnob Tryz.prog.godebug = none:=by kernel_rfl
theorem have_walk (s s2 : ByteArray) (w : World) : Calls Tryz.prog 8 #[.string s,.string s2] w fun e w' => e = .returned (.bool true) ∧ Below w.heap.size w w':=by
 obtain ⟨⟨l⟩⟩:=s
 obtain ⟨⟨l2⟩⟩:=s2
 obtain ⟨p,ok,hrd⟩:=Ai.libO.rd l
 exact Ai.to_rowD Ai.fa3_chk (vs:=[.str l,.str l2]) (us:=[.string ⟨⟨l⟩⟩,.string ⟨⟨l2⟩⟩]) rfl (Ai.wp_have Ai.libO hrd Ai.libO.awake [] []) (by simp only [Ai.RepT,Ai.Rep]; exact ⟨_,_,rfl,rfl,_,_,rfl,rfl,rfl⟩) w
theorem have_lifted (os : Os) (started : os.Started) (H : Type) (enc : TypeId × Value → H) :
  ReturnsInHanded {} Tryz.checked os 8 .any (Rows.classesHaveSpec.pre6 enc Tryz.prog Tryz.f8 Rows.classesHaveRow.domain false) (Rows.classesHaveSpec.post enc Tryz.prog Tryz.f8 false true false false):=by
 refine returnsInHanded_of_change (C:=Tryz.checked) Tryz.own started (by kernel_rfl) Tryz.func8
  (ChangeSpec.witness6 (enc:=enc) (C:=Tryz.checked) false ⟨#[],#[.string ⟨#[]⟩,.string ⟨#[]⟩],[]⟩ 8 (by kernel_rfl) (by kernel_rfl) (by kernel_rfl) (by kernel_rfl)) ?_
 intro W base args ds gs before hval0 hW hcnd _
 have hval : ∀ (j : Nat) t v,Tryz.f8.params[j]? = some t → args[j]? = some v → Value.okWide Tryz.prog W .any base t v:=hval0
 have hW':=hW
 obtain ⟨p,q,hA0,hV,rfl,hfz,hnd⟩:=hW
 have hA : DataW.TrodAll enc Tryz.prog W 0 (fun _ => true) true Tryz.f8.params.toList args.toList ds p:=hA0
 rw [Tryz.params8] at hA hval
 obtain ⟨v0,v1,d0,d1,p0,p1,rfl,rfl,rfl,h0,h1⟩:=trodAll_two hA
 obtain ⟨rfl,rfl⟩:=trodVars_none hV
 obtain ⟨s,rfl,rfl,rfl,hs⟩:=open_string Tryz.underlying9 (hval 0 9 v0 rfl rfl) h0
 obtain ⟨s2,rfl,rfl,rfl,hs2⟩:=open_string Tryz.underlying9 (hval 1 9 v1 rfl rfl) h1
 clear hA0 hval0
 simp only [List.append_nil] at hW'
 refine (have_walk s s2 W).mono fun e W' ⟨he,hb⟩ => ?_
 subst he
 exact ⟨_,rfl,_,_,_,[],[],[],hW',trodAll_mk1 (shut_bool Tryz.underlying4 true),trodAll_mk2 (shut_string Tryz.underlying9 hs) (shut_string Tryz.underlying9 hs2),rfl,hb.frame _,fun h => by cases h⟩
theorem classesHave_holds : Rows.ClassesHaveSaid:=
 OpenClaim.holds_of_wide 8 Tryz.f8 rfl rfl rfl rfl rfl rfl rfl ⟨rfl,rfl,rfl,rfl,rfl⟩ rfl rfl rfl rfl rfl (by kernel_rfl) Tryz.func8 (by kernel_rfl)
  (of_decide_eq_true (by kernel_rfl)) (by unfold Func.isWrapper; first | (rw [if_pos (by decide +kernel)]; kernel_rfl) | (rw [if_neg (by decide +kernel)]; exact ⟨rfl,rfl⟩))
  (fun os started H enc _ => have_lifted os started H enc)
#print axioms classesHave_holds
end Go.Proofs.YtmeakjgbjldkdaaGreat
