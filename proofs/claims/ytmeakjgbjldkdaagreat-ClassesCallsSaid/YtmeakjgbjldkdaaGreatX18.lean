/- A part of what is proved: SrtM, EnvD, M3, F0p, H1p, H1a, L15, F1c, Q1, Q2a, Q2b, Q2c, Q2d, Q2e, Q3. No condition. -/
import Derived.Test.YtmeakjgbjldkdaaGreatX17
import Derived.Test.YtmeakjgbjldkdaaGreatProg
import Derived.KernelRfl
set_option maxRecDepth 100000
set_option maxHeartbeats 16000000
namespace Go.Proofs.YtmeakjgbjldkdaaGreat.Ai
open Go Go.Sort Go.Proofs.YtmeakjgbjldkdaaGreat.Slo
def tabOk (m : Nat) (cs : List AV) : Bool:=cs.all fun x => closed1 x || match x with
 | .map k => k == m
 | _ => false
theorem tabOk_spec {m : Nat} {cs : List AV} (h : tabOk m cs = true) : ∀ x ∈ cs,closed1 x = true ∨ x = .map m:=by
 intro x hx
 have:=List.all_eq_true.1 h x hx
 rw [Bool.or_eq_true] at this
 refine this.imp id fun h => ?_
 cases x <;> simp at h
 rw [h]
open Classical in
noncomputable def methEnd (S : St) (m : Nat) (es : List (Str × AV)) : AV → St → Option (Res × St)
 | .list 13 (.row b _) rows,S1 => match keysOf rows with
  | some ks => if S.rows.length < b ∧ ks.Nodup ∧ nestLL bad13 rows = true ∧ S1.heap[m]? = some (.map es) ∧ rows.length ≤ 1000000000 ∧ rows ≠ [] then some (.ret (.list 13 .dead (sortRows ks rows)),⟨S.heap,S1.rows⟩) else none
  | none => none
 | .list 0 .full [],S1 => if S1.heap[m]? = some (.map es) then some (.ret (.list 0 .full []),⟨S.heap,S1.rows⟩) else none
 | _,_ => none
noncomputable def methP : CallFn → List AV → St → Option (Res × St):=fun cl vs S => match vs with
 | [.ptr n 0,.str s] => match S.heap[n]? with
  | some (.cells cs) => match (cs[1]? : Option AV) with
   | some (.map m) => match S.heap[m]? with
    | some (.map es) => if intsM es = true ∧ tabOk m cs = true then
      match exU cl pre37 (args0 [.ref cs,.str s]) ⟨S.heap,S.rows ++ [0]⟩ with
      | some (.normal,e1,S1) => match eget e1 5 with
       | some v => methEnd S m es v S1
       | none => none
      | _ => none
     else none
    | _ => none
   | _ => none
  | _ => none
 | _ => none
theorem methP_mono : PrimMono methP:=by
 intro c c' hc vs S a h
 unfold methP at h ⊢
 split at h
 ·rename_i n s
  split at h
  ·rename_i cs hcs
   split at h
   ·rename_i m hm
    split at h
    ·rename_i es hes
     split at h
     ·rename_i hif
      simp only [if_pos hif]
      split at h
      ·rename_i e1 S1 hx
       rw [exU_mono hc _ _ _ _ hx]
       exact h
      ·simp at h
     ·simp at h
    ·simp at h
   ·simp at h
  ·simp at h
 ·simp at h
noncomputable def pre37c : IC:=.seq r37_2 (.block 0 (.loop [0,5,13,14,15] (.seq r37_3 (.seq (.cond (.tmp 16) (.skip) (.exit 0)) (.seq (.block 1 (.seq r37_4 (.seq r37_5 (.block 2 (.loop [0,5,7,13,14,15,26,27,28] (.seq r37_6 (.seq (.cond (.tmp 29) (.skip) (.exit 2)) (.seq (.block 3 (.seq r37_7 (.seq r37_8 (.seq r37_9 (.cond (.tmp 40) r37_10 (.skip)))))) r37_11)))))))) r37_12)))))
theorem pre37_eq : pre37 = .seq r37_0 (.seq r37_1 pre37c):=rfl
theorem chk_a : chkC Tryz.prog 60 r37_0 a37 = true:=by unfold a37; kernel_rfl
theorem chk_b : chkC Tryz.prog 60 r37_1 b37 = true:=by unfold b37; kernel_rfl
theorem chk_c : chkC Tryz.prog 60 pre37c c37c = true:=by unfold c37c; kernel_rfl
theorem enter37 (us : Array Value) (w : World) : (callFunc 37 us).run Tryz.prog w = .ok (.enter 37 us) w:=by
 have hf:=Tryz.func37
 have hb : Tryz.f37.body.isSome = true:=by kernel_rfl
 have h2 : (Tryz.f37.name != "runtime.NumGoroutine") = true:=by kernel_rfl
 obtain ⟨c,hc⟩:=Option.isSome_iff_exists.1 hb
 have h3 : ¬Tryz.f37.name = "runtime.NumGoroutine":=by simpa using h2
 simp [callFunc,hf,h3,hc]
theorem pre37_wp {cl : CallFn} (hcl : CallSim Tryz.prog cl) {n : Nat} {K : Ghost} {S S' : St} {w : World} {a : Act} {e e' : Env} {Q : Exit → Act → World → Prop} (R : Rel K S w) (hI : Inner S.heap.length S) (E : EnvRep K (eget e) a.tmps) (hnt : 60 ≤ a.tmps.size)
  (hx : exec S.heap.length cl n pre37 e S = some (.normal,e',S'))
  (hQ : ∀ a' w' K',Rel K' S' w' → EnvRep K' (eget e') a'.tmps → a'.defers = a.defers → a'.tmps.size = a.tmps.size → Step K (fun n => n < S.heap.length) w K' w' → tail37.wp Tryz.prog Q a' w') :
  (Code.seq a37 (.seq b37 (.seq c37c tail37))).wp Tryz.prog Q a w:=by
 rw [pre37_eq] at hx
 obtain ⟨ea,Sa,hxa,hx⟩:=exec_seq_inv hx
 obtain ⟨eb,Sb,hxb,hxc⟩:=exec_seq_inv hx
 refine wp_seq (csim_norm hcl chk_a R hI E hnt (Nat.le_refl _) hxa ?_)
 intro aa wa Ka Ra Ea hda hsa hsta hka
 refine wp_seq (csim_norm hcl chk_b Ra (hka.2.2 hI) Ea (by omega) hka.1 hxb ?_)
 intro ab wb Kb Rb Eb hdb hsb hstb hkb
 refine wp_seq (csim_norm hcl chk_c Rb (hkb.2.2 (hka.2.2 hI)) Eb (by omega) (Nat.le_trans hka.1 hkb.1) hxc ?_)
 intro ac wc Kc Rc Ec hdc hsc hstc hkc
 exact hQ ac wc Kc Rc Ec (hdc.trans (hdb.trans hda)) (hsc.trans (hsb.trans hsa)) ((hsta.trans hstb (fun m hm => Nat.lt_of_lt_of_le hm hka.1)).trans hstc (fun m hm => Nat.lt_of_lt_of_le hm (Nat.le_trans hka.1 hkb.1)))
theorem putRow_atG {α : Type} [Inhabited α] {enc : α → Value} {w : World} {br off : Nat} {d : Array α} {us : Array Value} {t : TypeId} (h : w.heap[br]? = some (.cells us t (0,0))) : (putRow enc w br off d).heap[br]? = some (.cells (putCells enc off d us) t (0,0)):=by
 simp [putRow,mapBlock,Array.getElem?_modify,h,onCells]
theorem putRow_neG {α : Type} [Inhabited α] {enc : α → Value} {w : World} {br off k : Nat} {d : Array α} (h : k ≠ br) : (putRow enc w br off d).heap[k]? = w.heap[k]?:=by
 simp only [putRow,mapBlock,Array.getElem?_modify]
 rw [if_neg (Ne.symm h)]
theorem nestLL_mem {bad : Nat → Bool} : ∀ {rows : List (List AV)},nestLL bad rows = true → ∀ r ∈ rows,nestL bad r = true
 | [],_,r,hr => by cases hr
 | x :: xs,h,r,hr => by
  simp only [nestLL,Bool.and_eq_true] at h
  rcases List.mem_cons.1 hr with rfl | hr
  ·exact h.1
  ·exact nestLL_mem h.2 r hr
theorem meth_sim : PrimSim Tryz.prog 37 methP:=by
 intro cl hcl vs S r S' hp K w us R hI ha
 unfold methP at hp
 split at hp
 case h_2 => simp at hp
 rename_i n s
 simp only at hp
 split at hp
 case h_2 => simp at hp
 rename_i cs hcs
 split at hp
 case h_2 => simp at hp
 rename_i m hcm
 split at hp
 case h_2 => simp at hp
 rename_i es hes
 split at hp
 case isFalse => simp at hp
 rename_i hif
 obtain ⟨hint,htab⟩:=hif
 split at hp
 case h_2 => simp at hp
 rename_i e1 S1 hex
 split at hp
 case h_2 => simp at hp
 rename_i v hv5
 obtain ⟨nf,hex⟩:=exU_some hex
 refine .inl ⟨enter37 _ _,?_⟩
 simp only [RepT] at ha
 obtain ⟨u0,us1,rfl,hu0,u1,us2,rfl,hu1,rfl⟩:=ha
 simp only [Rep] at hu0
 obtain ⟨B0,hB0,rfl⟩:=hu0
 obtain ⟨vs0,t0,hw0,hrep0⟩:=R.cells n B0 cs hB0 hcs
 obtain ⟨um,-,-,hum⟩:=hrep0.get 1 _ hcm
 simp only [Rep] at hum
 obtain ⟨Bm,hBm,-⟩:=hum
 obtain ⟨vs,t,e1',e2,Ro⟩:=rel_out R hB0 hcs hBm hes hint
 rw [hw0] at e1'
 simp only [Option.some.injEq,Obj.cells.injEq,and_true] at e1'
 obtain ⟨rfl,rfl⟩:=e1'
 have hRef:=ref_out (b:=S.rows.length) R hB0 hBm (tabOk_spec htab) e2
 have hargs : RepT (outK K B0 vs0.toList m Bm S.rows.length) [.ref cs,.str s] [.pointer (some ⟨B0,0,none⟩),u1]:=by
  simp only [RepT]
  refine ⟨_,_,rfl,hRef,_,_,rfl,?_,rfl⟩
  simpa only [Rep] using hu1
 have hE:=args_rep hargs 60
 refine calls_of_wp Tryz.func37 body37 ?_
 rw [Tryz.ntmps37]
 refine pre37_wp hcl (S:=⟨S.heap,S.rows ++ [0]⟩) Ro hI hE (by simp) hex ?_
 intro a1 w1 K1 R1 E1 hdf hsz hst
 have hsz60 : a1.tmps.size = 60:=by
  rw [hsz]
  simp
 obtain ⟨-,hr5⟩:=E1 5 v hv5
 unfold methEnd at hp
 split at hp
 ·
  rename_i b en rows
  split at hp
  case h_2 => simp at hp
  rename_i ks hks
  split at hp
  case isFalse => simp at hp
  rename_i hc
  obtain ⟨c1,c2,c3,c4,c5,c6⟩:=hc
  simp only [Option.some.injEq,Prod.mk.injEq] at hp
  obtain ⟨rfl,rfl⟩:=hp
  obtain ⟨Rb,Rm,hstm,hnst⟩:=rel_mid R hB0 hcs hBm hes hint hw0 e2 hst R1 c4
  simp only [Rep] at hr5
  obtain ⟨base,cap,hsv,hcap,hrs,hrow⟩:=hr5
  have hkl:=keysOf_len hks
  rcases hrow with ⟨-,h0,-⟩ | ⟨Br,o,vr,rfl,hfix,hrl,ht⟩
  ·exact absurd h0 c6
  obtain ⟨⟨x,hxa,hxb⟩,-⟩:=ht.2
  have hx13:=ht.1 x hxa
  have hnew : w.heap.size ≤ Br:=by
   rcases hst.born Br x hxa with ⟨⟨b',E,sz,size⟩,hy⟩ | h
   ·exfalso
    obtain ⟨E',h1,-⟩:=hst.ext.a Br b' E sz size hy
    rw [hxa] at h1
    simp only [Option.some.injEq] at h1
    subst h1
    simp only at hxb
    subst hxb
    simp only [outK] at hy
    split at hy
    ·simp only [Option.some.injEq,Prod.mk.injEq] at hy
     omega
    ·obtain ⟨_,-,-,r0,hr0,-⟩:=R.grow Br b' E sz size hy
     have:=(List.getElem?_eq_some_iff.1 hr0).1
     omega
   ·exact h
  obtain ⟨lr,hgr,hlr⟩:=hfix
  obtain ⟨ur,tr,hur,hurl⟩:=R1.rows Br lr hgr
  have hne0 : Br ≠ B0:=fun e => by
   have:=(Array.getElem?_eq_some_iff.1 hw0).1
   omega
  obtain ⟨us,rfl,husl,husr⟩:=RepLL.chunks hrl
  have hrlen : ∀ (i : Nat) (u : List Value),us[i]? = some u → u.length = 13:=fun i u hu => by
   have hi:=(List.getElem?_eq_some_iff.1 hu).1
   obtain ⟨r,hr⟩ : ∃ r,rows[i]? = some r:=⟨_,List.getElem?_eq_getElem (by omega)⟩
   rw [(husr i r u hr hu).length]
   exact (hrs r (List.mem_of_getElem? hr)).1
  have hone : ∀ (i : Nat) (u : List Value),us[i]? = some u → ∀ v ∈ u,v.oneCell' = true:=fun i u hu => by
   have hi:=(List.getElem?_eq_some_iff.1 hu).1
   obtain ⟨r,hr⟩ : ∃ r,rows[i]? = some r:=⟨_,List.getElem?_eq_getElem (by omega)⟩
   exact (husr i r u hr hu).oneCell
  obtain ⟨rest,hrest⟩ : ∃ rest : List UInt8 → List Value,rest = fun k => valFor k ks us:=⟨_,rfl⟩
  have h12 : ∀ k,(rest k).length = 12:=fun k => by
   rw [hrest]
   rcases valFor_cases k ks us with ⟨u,hu,h⟩ | h
   ·obtain ⟨i,hi⟩:=List.getElem?_of_mem hu
    simp only [h,List.length_tail,hrlen i u hi]
   ·simp only [h,List.length_replicate]
  have h1c : ∀ k,∀ v ∈ rest k,v.oneCell' = true:=fun k v hv => by
   rw [hrest] at hv
   rcases valFor_cases k ks us with ⟨u,hu,h⟩ | h
   ·obtain ⟨i,hi⟩:=List.getElem?_of_mem hu
    simp only [h] at hv
    exact hone i u hi v (List.mem_of_mem_tail hv)
   ·simp only [h] at hv
    rw [List.eq_of_mem_replicate hv]
    rfl
  have henc : ∀ k,(encR rest k).length = 13:=fun k => by simp [encR,h12]
  have hkey : ∀ (i : Nat) (k : Str),ks[i]? = some k → ∃ u,us[i]? = some u ∧ encR rest k = u ∧ RepL K1 (rowFor k ks rows) u ∧ rowFor k ks rows ∈ rows:=fun i k hk => by
   have hi:=(List.getElem?_eq_some_iff.1 hk).1
   obtain ⟨r,hr⟩ : ∃ r,rows[i]? = some r:=⟨_,List.getElem?_eq_getElem (by omega)⟩
   obtain ⟨u,hu⟩ : ∃ u,us[i]? = some u:=⟨_,List.getElem?_eq_getElem (by omega)⟩
   obtain ⟨r',rfl⟩:=keysOf_get hks i k r hk hr
   have hrr:=husr i _ u hr hu
   refine ⟨u,hu,?_,by rw [rowFor_get c2 hk hr]; exact hrr,by rw [rowFor_get c2 hk hr]; exact List.mem_of_getElem? hr⟩
   simp only [RepL] at hrr
   obtain ⟨x0,xs,rfl,-,hx0,-⟩:=hrr
   simp only [Rep] at hx0
   subst hx0
   unfold encR
   rw [hrest]
   simp only [valFor_get c2 hk hu,List.tail_cons]
  have hmap : ks.map (encR rest) = us:=by
   apply List.ext_getElem?
   intro i
   rw [List.getElem?_map]
   cases hk : ks[i]? with
   | none =>
    rw [List.getElem?_eq_none (by have:=List.getElem?_eq_none_iff.1 hk; omega)]
    rfl
   | some k =>
    obtain ⟨u,hu,he,-⟩:=hkey i k hk
    rw [hu,Option.map_some,he]
  have hflat : (flatK (encR rest) 13 ks.toArray).toList = us.flatten:=by rw [flatK_list _ henc,hmap]
  have hfl : us.flatten.length = ks.length * 13:=by rw [← hmap]; exact flat_len13 _ henc ks
  have hH : HoldsK (encR rest) 13 w1 Br o ks.toArray:=by
   intro j hj
   rw [size_flatK] at hj
   simp only [List.size_toArray] at hj
   refine ⟨?_,free_at hur _⟩
   rw [cells_at hur]
   have h1 : (flatK (encR rest) 13 ks.toArray)[j]! = us.flatten[j]!:=by
    rw [← hflat,getElem!_pos _ j (by rw [size_flatK,List.size_toArray]; exact hj),getElem!_pos _ j (by rw [Array.length_toList,size_flatK,List.size_toArray]; exact hj),Array.getElem_toList]
   have h2 : us.flatten[j]? = lr[o + j]?:=by
    have : ((lr.drop o).take us.flatten.length)[j]? = us.flatten[j]?:=by rw [hlr]
    rw [List.getElem?_take_of_lt (by omega),List.getElem?_drop] at this
    exact this.symm
   have h3 : ur[o + j]? = lr[o + j]?:=by
    have hlt : o + j < lr.length:=by
     refine Nat.lt_of_not_le fun hle => ?_
     rw [List.getElem?_eq_none hle,List.getElem?_eq_none_iff] at h2
     omega
    have : (ur.toList.take lr.length)[o + j]? = lr[o + j]?:=by rw [hurl]
    rw [List.getElem?_take_of_lt hlt] at this
    simpa using this
   show ur[o + j]? = some ((flatK (encR rest) 13 ks.toArray)[j]!)
   rw [h1,h3,← h2,getElem!_pos us.flatten j (by omega),List.getElem?_eq_getElem (by omega)]
  have hcall:=sort72 rest h12 h1c Br o cap ks.toArray w1 hH (Array.getElem?_eq_some_iff.1 hur).1 (by simp only [List.size_toArray]; omega)
  simp only [List.size_toArray,hkl] at hcall
  refine tail37_wp _ _ _ a1 w1 hsz60 hdf hsv hcall ?_
  rintro a' w' hda ha60 ha4 ⟨nd,os,rfl⟩
  obtain ⟨so,hso⟩ : ∃ so,so = sortB ks:=⟨_,rfl⟩
  rw [← hso]
  have hsl : so.length = ks.length:=by rw [hso]; exact sortB_length ks
  have hsm : ∀ k ∈ so,k ∈ ks:=fun k hk => (sortB_perm ks).mem_iff.1 (hso ▸ hk)
  have hbr:=(Array.getElem?_eq_some_iff.1 hur).1
  have hw2 : ∀ k,k < w1.heap.size → (sortWorldK (encR rest) 13 w1 Br o nd so.toArray os).heap[k]? = (putRow id (Sort.ahead w1 nd) Br o (flatK (encR rest) 13 so.toArray)).heap[k]?:=fun k hk => Array.getElem?_append_left (by simpa [putRowK] using hk)
  have hcur : (sortWorldK (encR rest) 13 w1 Br o nd so.toArray os).heap[Br]? = some (.cells (putCells id o (flatK (encR rest) 13 so.toArray) ur) tr (0,0)):=by
   rw [hw2 Br hbr]
   exact putRow_atG hur
  have hoth : ∀ B,B < w1.heap.size → B ≠ Br → (sortWorldK (encR rest) 13 w1 Br o nd so.toArray os).heap[B]? = w1.heap[B]?:=fun B hB hne => by
   rw [hw2 B hB,putRow_neG hne]
   rfl
  have hsize : w1.heap.size ≤ (sortWorldK (encR rest) 13 w1 Br o nd so.toArray os).heap.size:=size_sortWorldK_c _ _ _ _ _ _ _ _
  have hW1 : (sortWorldK (encR rest) 13 w1 Br o nd so.toArray os).os = w1.os:=rfl
  have hW2 : (sortWorldK (encR rest) 13 w1 Br o nd so.toArray os).tape = w1.tape:=rfl
  have hW3 : (sortWorldK (encR rest) 13 w1 Br o nd so.toArray os).output = w1.output:=rfl
  generalize sortWorldK (encR rest) 13 w1 Br o nd so.toArray os = w2 at hcur hoth hsize hW1 hW2 hW3 ⊢
  obtain ⟨l',hl'⟩ : ∃ l',l' = (putCells id o (flatK (encR rest) 13 so.toArray) ur).toList.take (o + ks.length * 13):=⟨_,rfl⟩
  have husz : o + ks.length * 13 ≤ ur.size:=by
   have e1:=congrArg List.length hlr
   have e2:=congrArg List.length hurl
   rw [List.length_take,List.length_drop,hfl] at e1
   rw [List.length_take] at e2
   simp only [Array.length_toList] at e2
   have h0 : 0 < ks.length:=by
    rw [hkl]
    exact List.length_pos_iff.2 c6
   omega
  have hl'len : l'.length = o + ks.length * 13:=by
   rw [hl',List.length_take]
   simp [putCells]
   omega
  obtain ⟨R2,hst2⟩:=rel_row R Rb Rm (hstm fun n => n < S.heap.length) (Br:=Br) (lr:=lr) (l':=l') hnew (by simp only [midK]; rw [if_neg hne0]; exact hgr) rfl hW1 hW2 hW3 hsize hoth hcur (by rw [hl'len,hl'])
  have hnst2 : Nst bad13 K1 (rowK (midK K K1 B0) Br l'):=nst_row hnst hxa (by rw [hx13]; rfl)
  have hfix2 : (rowK (midK K K1 B0) Br l').fix Br o (so.map (encR rest)).flatten:=by
   refine ⟨l',by simp [rowK],?_⟩
   rw [flat_len13 _ henc,hsl,← flatK_list _ henc]
   apply List.ext_getElem?
   intro j
   by_cases hj : j < ks.length * 13
   ·rw [List.getElem?_take_of_lt hj,List.getElem?_drop,hl',List.getElem?_take_of_lt (by omega)]
    have hj2 : j < (flatK (encR rest) 13 so.toArray).size:=by rw [size_flatK,List.size_toArray,hsl]; exact hj
    simp only [Array.getElem?_toList,putCells,Array.getElem?_mapIdx]
    rw [Array.getElem?_eq_getElem (by omega),Option.map_some,if_pos ⟨by omega,by omega⟩,show o + j - o = j by omega,Array.getElem?_eq_getElem hj2,getElem!_pos _ j hj2]
    rfl
   ·rw [List.getElem?_eq_none (by rw [List.length_take]; omega),List.getElem?_eq_none (by simp only [Array.length_toList,size_flatK,List.size_toArray,hsl]; omega)]
  have hrow : ∀ (l : List Str),(∀ k ∈ l,k ∈ ks) → RepLL (rowK (midK K K1 B0) Br l') (l.map fun k => rowFor k ks rows) (l.map (encR rest)).flatten:=by
   intro l
   induction l with
   | nil => intro _; simp [RepLL]
   | cons k l ih =>
    intro hl
    simp only [List.map_cons,List.flatten_cons,RepLL]
    refine ⟨_,_,rfl,?_,ih (fun k hk => hl k (List.mem_cons_of_mem _ hk))⟩
    obtain ⟨i,hi⟩:=List.getElem?_of_mem (hl k List.mem_cons_self)
    obtain ⟨u,hu,he,hr,hmem⟩:=hkey i k hi
    rw [he]
    exact RepL.nest hnst2 _ _ hr (nestLL_mem c3 _ hmem)
  have hres : Rep (rowK (midK K K1 B0) Br l') (.list 13 .dead (sortRows ks rows)) (a1.tmps.getD 5 Go.undef):=by
   rw [hsv]
   simp only [Rep,sortRows,← hso]
   refine ⟨some ⟨Br,o,none⟩,cap,by rw [List.length_map,hsl,hkl],by rw [List.length_map,hsl,hkl]; exact hcap,fun r hr => ?_,.inr ⟨Br,o,_,rfl,hfix2,hrow so hsm,fun x hx => by simp [rowK] at hx,trivial⟩⟩
   obtain ⟨k,hk,rfl⟩:=List.mem_map.1 hr
   obtain ⟨i,hi⟩:=List.getElem?_of_mem (hsm k hk)
   obtain ⟨u,hu,he,-,hmem⟩:=hkey i k hi
   exact hrs _ hmem
  have hE4 : EnvRep (rowK (midK K K1 B0) Br l') (eget [(4,.list 13 .dead (sortRows ks rows))]) a'.tmps:=by
   intro t v hv
   simp only [eget] at hv
   split at hv
   ·rename_i e
    subst e
    simp only [Option.some.injEq] at hv
    subst hv
    refine ⟨by omega,?_⟩
    rw [ha4,← hsv]
    exact hres
   ·cases hv
  obtain ⟨u,hu,hr⟩:=results_sim (P:=Tryz.prog) (g:=Tryz.f37) (rs:=[.tmp 4]) R2 hE4 (by kernel_rfl) rfl
  exact ⟨hda,u,hu,_,R2,hst2,⟨Nat.le_refl _,fun _ _ h => h,fun h => h⟩,u,rfl,hr⟩
 ·
  split at hp
  case isFalse => simp at hp
  rename_i c4
  simp only [Option.some.injEq,Prod.mk.injEq] at hp
  obtain ⟨rfl,rfl⟩:=hp
  obtain ⟨Rb,Rm,hstm,hnst⟩:=rel_mid R hB0 hcs hBm hes hint hw0 e2 hst R1 c4
  have hres:=Rep.nest hnst _ _ hr5 rfl
  simp only [Rep] at hr5
  obtain ⟨base,cap,hsv,-⟩:=hr5
  refine tail37_wp _ _ _ a1 w1 hsz60 hdf hsv (sort72_none base cap _ w1) ?_
  rintro a' w' hda ha60 ha4 rfl
  have hE4 : EnvRep (midK K K1 B0) (eget [(4,.list 0 .full [])]) a'.tmps:=by
   intro t v hv
   simp only [eget] at hv
   split at hv
   ·rename_i e
    subst e
    simp only [Option.some.injEq] at hv
    subst hv
    refine ⟨by omega,?_⟩
    rw [ha4,← hsv]
    exact hres
   ·cases hv
  obtain ⟨u,hu,hr⟩:=results_sim (P:=Tryz.prog) (g:=Tryz.f37) (rs:=[.tmp 4]) Rm hE4 (by kernel_rfl) rfl
  exact ⟨hda,u,hu,_,Rm,hstm _,⟨Nat.le_refl _,fun _ _ h => h,fun h => h⟩,u,rfl,hr⟩
 ·simp at hp
end Go.Proofs.YtmeakjgbjldkdaaGreat.Ai
namespace Go.Proofs.YtmeakjgbjldkdaaGreat.Ai
open Go
noncomputable def PrD : Prims:=fun n => match n with
 | 37 => some methP
 | n => PrC n
theorem prD_mono : Mono PrD:=by
 intro f p hp
 unfold PrD at hp
 split at hp
 ·simp only [Option.some.injEq] at hp; subst hp; exact methP_mono
 ·exact prC_mono _ _ hp
theorem prD_sim : ∀ f p,PrD f = some p → PrimSim Tryz.prog f p:=by
 intro f p hp
 unfold PrD at hp
 split at hp
 ·simp only [Option.some.injEq] at hp; subst hp; exact meth_sim
 ·exact prC_sim _ _ hp
theorem joinD_det {F : Nat → Option IFn} (l : List Str) (sep : Str) (v : AV) (H : List Blk) (rw : List Nat) (hv : IsL 1 v (l.map nmRow)) (hl : (l.map fun x => x.length + sep.length).sum ≤ 2147483648) (hs : 0 < sep.length) :
  Det PrD F 54 [v,.str sep] ⟨H,rw⟩ (.ret (.str (joinT sep l))) ⟨H,rw⟩:=by
 obtain ⟨z,tg,rfl,-,-⟩:=hv.ex
 obtain ⟨h1,h2⟩:=sum_len sep.length hs l
 refine det_run prD_mono (n:=1) ?_
 show joinP (callN PrD F 0) [.list z tg (l.map nmRow),.str sep] ⟨H,rw⟩ = _
 simp only [joinP,strs_nm]
 rw [if_pos ⟨by omega,by omega⟩]
theorem ckr {f : Nat} {g : Func} {fn fn' : IFn} (hg : Tryz.prog.funcs[f]? = some g) (hc : chkFn Tryz.prog g fn = true) (h : some fn = some fn') : ∃ g,Tryz.prog.funcs[f]? = some g ∧ chkFn Tryz.prog g fn' = true:=by
 cases h
 exact ⟨g,hg,hc⟩
theorem to_rowD {F : Nat → Option IFn} (hF : ∀ f fn,F f = some fn → ∃ g,Tryz.prog.funcs[f]? = some g ∧ chkFn Tryz.prog g fn = true) {f : Nat} {vs : List AV} {us : List Value} (hf : PrD f = none) (h : Wp PrD F f vs S0 TrueQ) (ha : RepT K0 vs us) (w : World) :
  Calls Tryz.prog f us.toArray w fun e w' => e = .returned (.bool true) ∧ RowKit.Below w.heap.size w w':=by
 obtain ⟨n,r,S',h1,rfl⟩:=h
 exact to_calls prD_sim (fun f fn _ h => hF f fn h) hf (callN_le prD_mono n _ _ _ _ h1) ha w
end Go.Proofs.YtmeakjgbjldkdaaGreat.Ai
namespace Go.Proofs.YtmeakjgbjldkdaaGreat.Ai
open Go
variable {pr : Prims} {F : Nat → Option IFn}
structure LibN (pr : Prims) (F : Nat → Option IFn) : Prop extends LibM pr F where
 p37 : pr 37 = some methP
theorem ne_lst {sz : Nat} {rows : List (List AV)} (h : bad13 sz = false) (hr : nestLL bad13 rows = true) : nest1 bad13 (lst sz rows) = true:=by
 cases rows with
 | nil => rfl
 | cons r rs =>
  simp only [lst,nest1,h,Bool.not_false,Bool.true_and]
  exact hr
theorem ne_app (bad : Nat → Bool) : ∀ (a b : List AV),nestL bad (a ++ b) = (nestL bad a && nestL bad b)
 | [],b => by simp [nestL]
 | x :: a,b => by simp only [List.cons_append,nestL,ne_app bad a b,Bool.and_assoc]
theorem ne_map {α : Type} (f : α → List AV) (h : ∀ x,nestL bad13 (f x) = true) : ∀ l : List α,nestLL bad13 (l.map f) = true
 | [] => rfl
 | x :: l => by simp only [List.map_cons,nestLL,h,ne_map f h l,Bool.and_self]
mutual
theorem ne_ty : ∀ t : Ty,nestL bad13 (tyRow t) = true
 | .mk kind name null elem pred at_ => by simp only [tyRow,nestL,nest1,ne_lst (sz:=6) rfl (ne_tys elem),ne_lst (sz:=5) rfl (ne_exs pred),Bool.and_self]
theorem ne_tys : ∀ ts : List Ty,nestLL bad13 (tyRows ts) = true
 | [] => by simp only [tyRows,nestLL]
 | t :: ts => by simp only [tyRows,nestLL,ne_ty t,ne_tys ts,Bool.and_self]
theorem ne_ex : ∀ t : Xp,nestL bad13 (exRow t) = true
 | .mk op name args ty at_ => by simp only [exRow,nestL,nest1,ne_lst (sz:=6) rfl (ne_tys ty),ne_lst (sz:=5) rfl (ne_exs args),Bool.and_self]
theorem ne_exs : ∀ ts : List Xp,nestLL bad13 (exRows ts) = true
 | [] => by simp only [exRows,nestLL]
 | t :: ts => by simp only [exRows,nestLL,ne_ex t,ne_exs ts,Bool.and_self]
end
mutual
theorem ne_sm : ∀ t : Sm,nestL bad13 (smRow t) = true
 | .mk kind name ty exs body els at_ => by simp only [smRow,nestL,nest1,ne_lst (sz:=6) rfl (ne_tys ty),ne_lst (sz:=5) rfl (ne_exs exs),ne_lst (sz:=7) rfl (ne_sms body),ne_lst (sz:=7) rfl (ne_sms els),Bool.and_self]
theorem ne_sms : ∀ ts : List Sm,nestLL bad13 (smRows ts) = true
 | [] => by simp only [smRows,nestLL]
 | t :: ts => by simp only [smRows,nestLL,ne_sm t,ne_sms ts,Bool.and_self]
end
theorem ne_par (p : Par) : nestL bad13 (parRow p) = true:=by simp only [parRow,nestL,nest1,ne_app,ne_ty,Bool.and_self]
theorem ne_mth (p : Mth) : nestL bad13 (mthRow p) = true:=by simp only [mthRow,nestL,nest1,ne_app,ne_ty,ne_lst (sz:=7) rfl (ne_sms _),ne_lst (sz:=8) rfl (ne_map parRow ne_par _),Bool.and_self]
theorem ne_mem (s o : Str) (p : Mth) : nestL bad13 (memRow s o p) = true:=by simp only [memRow,nestL,nest1,ne_mth,Bool.and_self]
theorem ne_mems (l : List (Str × Str × Mth)) : nestLL bad13 (memRows l) = true:=ne_map (α:=Str × Str × Mth) (fun x => memRow x.1 x.2.1 x.2.2) (fun x => ne_mem x.1 x.2.1 x.2.2) l
def sigsM (l : List (Str × Str × Mth)) : List Str:=l.map (·.1)
def lookM (k : Str) : List (Str × Str × Mth) → Str × Str × Mth
 | [] => (k,[],mthZ)
 | x :: l => if x.1 = k then x else lookM k l
def sortM (l : List (Str × Str × Mth)) : List (Str × Str × Mth):=(sortB (sigsM l)).map fun k => lookM k l
def methS (cs : List Cls) (U : List (List Nat)) (s : Str) : List (Str × Str × Mth):=sortM (methF cs U s)
theorem keys_mems : ∀ l : List (Str × Str × Mth),keysOf (memRows l) = some (sigsM l)
 | [] => rfl
 | x :: l => by
  have ih:=keys_mems l
  show keysOf ((AV.str x.1 :: AV.str x.2.1 :: mthRow x.2.2) :: memRows l) = _
  unfold keysOf
  rw [ih]
  rfl
theorem rowFor_mems {k : Str} : ∀ {l : List (Str × Str × Mth)},k ∈ sigsM l → rowFor k (sigsM l) (memRows l) = memRow (lookM k l).1 (lookM k l).2.1 (lookM k l).2.2
 | [],h => by cases h
 | x :: l,h => by
  show rowFor k (x.1 :: sigsM l) (memRow x.1 x.2.1 x.2.2 :: memRows l) = _
  unfold rowFor lookM
  split
  ·rfl
  ·rename_i hne
   rcases List.mem_cons.1 h with rfl | h
   ·exact absurd rfl hne
   ·exact rowFor_mems h
theorem sortRows_mems (l : List (Str × Str × Mth)) : sortRows (sigsM l) (memRows l) = memRows (sortM l):=by
 unfold sortRows sortM memRows
 rw [List.map_map]
 refine List.map_congr_left fun k hk => ?_
 exact rowFor_mems ((sortB_perm _).mem_iff.1 hk)
theorem sigs_add (owner : Str) (out : List (Str × Str × Mth)) (m : Mth) (h : (sigsM out).Nodup) : (sigsM (addM owner out m)).Nodup:=by
 unfold addM
 split
 ·exact h
 ·rename_i hn
  unfold sigsM at *
  rw [List.map_append,List.nodup_append]
  refine ⟨h,by simp,fun a ha b hb => ?_⟩
  simp only [List.map_cons,List.map_nil,List.mem_singleton] at hb
  subst hb
  intro e
  subst e
  obtain ⟨x,hx,hxs⟩:=List.mem_map.1 ha
  exact hn (idxM_mem.2 ⟨x,hx,hxs⟩)
theorem sigs_addF (owner : Str) : ∀ (l : List Mth) (out : List (Str × Str × Mth)),(sigsM out).Nodup → (sigsM (l.foldl (addM owner) out)).Nodup
 | [],_,h => h
 | m :: l,out,h => sigs_addF owner l _ (sigs_add owner out m h)
theorem sigs_addC (cs : List Cls) : ∀ (l : List Nat) (out : List (Str × Str × Mth)),(sigsM out).Nodup → (sigsM (l.foldl (addC cs) out)).Nodup
 | [],_,h => h
 | i :: l,out,h => by
  refine sigs_addC cs l _ ?_
  unfold addC
  split
  ·exact sigs_addF _ _ _ h
  ·exact h
theorem sigs_meth (cs : List Cls) (U : List (List Nat)) (s : Str) : (sigsM (methF cs U s)).Nodup:=sigs_addC cs _ [] List.nodup_nil
theorem methF_len {cs : List Cls} {U : List (List Nat)} (hfw : Few cs) (hup : ∀ i l,U[i]? = some l → IsUps cs i l) (s : Str) : (methF cs U s).length ≤ 64 * (cs.length + 1):=by
 have h1:=addR_len hfw (roadsF cs U s) []
 have h2:=roads_len (cs:=cs) hup s
 have h3 : 64 * (roadsF cs U s).length ≤ 64 * (cs.length + 1):=Nat.mul_le_mul_left _ h2
 simp only [List.length_nil,Nat.zero_add] at h1
 exact Nat.le_trans h1 h3
theorem ints_mapOf : ∀ (k : Nat) (cs : List Cls),intsM (mapOf k cs) = true
 | _,[] => rfl
 | k,c :: cs => by
  have ih:=ints_mapOf (k + 1) cs
  simp only [mapOf,intsM,List.all_cons,Bool.true_and]
  exact ih
theorem det_methods (L : LibN pr F) {H : List Blk} {rw : List Nat} {n mb z zb : Nat} {tg tb : Tag} {cs : List Cls} {U : List (List Nat)} {o1 o2 o3 sl : AV} (T : TabU H n mb cs z tg zb tb U o1 o2 o3 sl) (hfw : Few cs) (hcl : closedL [o1,o2,o3,sl] = true) (s : Str) :
  ∃ (v : AV) (rw' : List Nat),IsL 13 v (memRows (methS cs U s)) ∧ Rx rw rw' ∧ Det pr F 37 [.ptr n 0,.str s] ⟨H,rw⟩ (.ret v) ⟨H,rw'⟩:=by
 have hm:=L.hm
 suffices h : Wp pr F 37 [.ptr n 0,.str s] ⟨H,rw⟩ fun r S' => ∃ (v : AV) (rw' : List Nat),IsL 13 v (memRows (methS cs U s)) ∧ Rx rw rw' ∧ r = .ret v ∧ S' = ⟨H,rw'⟩ by
  obtain ⟨r,S',hd,v,rw',h1,h2,rfl,rfl⟩:=h.det hm
  exact ⟨v,rw',h1,h2,hd⟩
 obtain ⟨nf,x,e,S1,hx,rfl,v,rw1,M,he,hg,hR,rfl⟩:=wx_pre37 L.toLibM (rw:=rw ++ [0]) T hfw s
 have htab : tabOk mb (tabR cs U z zb mb tg tb o1 o2 o3 sl) = true:=by
  simp only [closedL,Bool.and_true,Bool.and_eq_true] at hcl
  simp only [tabR,tabOk,List.all_cons,List.all_nil,closed1,hcl.1,hcl.2.1,hcl.2.2.1,hcl.2.2.2,beq_self_eq_true,Bool.or_true,Bool.true_or,Bool.and_self]
 have hT2:=T.keep (keep_n T.at_ M)
 have hmp : (hp H n (.cells (tabR cs U z zb mb tg tb o1 o2 o3 sl)) M)[mb]? = some (.map (mapOf 0 cs)):=hT2.mp
 have hkey : ∀ res,methEnd ⟨H,rw⟩ mb (mapOf 0 cs) v ⟨hp H n (.cells (tabR cs U z zb mb tg tb o1 o2 o3 sl)) M,rw1⟩ = some res → callN pr F (nf + 1) 37 [.ptr n 0,.str s] ⟨H,rw⟩ = some res:=by
  intro res hres
  simp only [callN,L.p37]
  unfold methP
  have h1 : H[n]? = some (.cells (tabR cs U z zb mb tg tb o1 o2 o3 sl)):=T.at_
  have h2 : ((tabR cs U z zb mb tg tb o1 o2 o3 sl)[1]? : Option AV) = some (.map mb):=rfl
  have h3 : H[mb]? = some (.map (mapOf 0 cs)):=T.mp
  have h4:=exU_of (S:=⟨H,rw ++ [0]⟩) (cl':=callN pr F nf) (fun _ _ _ _ h => h) hx
  simp only [h1,h2,h3,if_pos (And.intro (ints_mapOf 0 cs) htab),h4,he]
  exact hres
 have hRr : Rx rw rw1:=((Rx.rfl).push 0).trans hR
 have hlen:=methF_len hfw T.ups s
 have hfew:=T.few
 rcases hg with ⟨h0,rfl⟩ | ⟨h0,r,rfl,h1,h2⟩
 ·have hz : methS cs U s = []:=by
   have : methF cs U s = []:=by
    have:=congrArg List.length h0
    rw [memRows_len] at this
    exact List.length_eq_zero_iff.1 this
   unfold methS
   rw [this]
   rfl
  refine ⟨nf + 1,.ret (.list 0 .full []),⟨H,rw1⟩,hkey _ ?_,_,rw1,?_,hRr,rfl,rfl⟩
  ·simp only [methEnd,hmp,if_true]
  ·rw [hz]
   exact IsL.nil
 ·have hsz : (rw ++ [0]).length = rw.length + 1:=by simp
  refine ⟨nf + 1,.ret (.list 13 .dead (memRows (methS cs U s))),⟨H,rw1⟩,hkey _ ?_,_,rw1,IsL.lit ?_,hRr,rfl,rfl⟩
  ·simp only [methEnd,keys_mems]
   rw [if_pos ⟨by omega,sigs_meth cs U s,ne_mems _,hmp,by rw [memRows_len]; omega,h0⟩,sortRows_mems,methS]
  ·intro h
   have:=congrArg List.length h
   rw [memRows_len] at this
   unfold methS sortM at this
   rw [List.length_map,sortB_length] at this
   apply h0
   apply List.length_eq_zero_iff.1
   rw [memRows_len]
   unfold sigsM at this
   rw [List.length_map] at this
   exact this
end Go.Proofs.YtmeakjgbjldkdaaGreat.Ai
namespace Go.Proofs.YtmeakjgbjldkdaaGreat.Ai
open Go
theorem mu_le {cs : List Cls} {U : List (List Nat)} (hup : ∀ i l,U[i]? = some l → IsUps cs i l) (i : Nat) : muU U i ≤ cs.length:=by
 unfold muU
 rw [List.getD_eq_getElem?_getD]
 cases hl : U[i]? with
 | none => simp
 | some l =>
  obtain ⟨bs,-,-,rfl⟩:=hup i l hl
  exact trues_len bs _
theorem chainL_stable {cs : List Cls} {U : List (List Nat)} (hU : U.length = cs.length) (hup : ∀ i l,U[i]? = some l → IsUps cs i l) (hl : Linked cs) (hok : ∀ c ∈ cs,okCls c) (hac : ∀ i,i < cs.length → ¬Up cs i i) :
  ∀ (k : Nat) (s : Str),(∀ i,place cs s = some i → muU U i < k) → chainL cs (k + 1) s = chainL cs k s:=by
 intro k
 induction k with
 | zero =>
  intro s h
  simp only [chainL]
  cases hp : place cs s with
  | none => rfl
  | some i => have:=h i hp; omega
 | succ k ih =>
  intro s h
  rw [chainL_eq,chainL_eq]
  cases hp : place cs s with
  | none => rfl
  | some i =>
   simp only [chainI]
   congr 1
   refine ih _ fun j hj => ?_
   have h1:=h i hp
   obtain ⟨c,hc,-⟩:=place_get hp
   have h2:=mu_lt hU hup hl hac (List.getElem?_eq_some_iff.1 hc).1 (sup_up hok hj)
   omega
theorem chainF_cons {cs : List Cls} {U : List (List Nat)} (hU : U.length = cs.length) (hup : ∀ i l,U[i]? = some l → IsUps cs i l) (hl : Linked cs) (hok : ∀ c ∈ cs,okCls c) (hac : ∀ i,i < cs.length → ¬Up cs i i)
  {s : Str} {i : Nat} (hp : place cs s = some i) : chainF cs s = i :: chainF cs (supOf cs i):=by
 unfold chainF
 rw [chainL_eq,hp]
 simp only [chainI]
 congr 1
 refine (chainL_stable hU hup hl hok hac cs.length _ fun j hj => ?_).symm
 obtain ⟨c,hc,-⟩:=place_get hp
 have h2:=mu_lt hU hup hl hac (List.getElem?_eq_some_iff.1 hc).1 (sup_up hok hj)
 have h3:=mu_le (cs:=cs) hup i
 omega
end Go.Proofs.YtmeakjgbjldkdaaGreat.Ai
namespace Go.Proofs.YtmeakjgbjldkdaaGreat.Ai
open Go
structure Cx (cs : List Cls) (U : List (List Nat)) : Prop where
 un : Unlike cs
 li : Linked cs
 ok : ∀ c ∈ cs,okCls c
 ac : ∀ i,i < cs.length → ¬Up cs i i
 ul : U.length = cs.length
 up : ∀ i l,U[i]? = some l → IsUps cs i l
 all : allOk cs U
theorem Cx.mem {cs : List Cls} {U : List (List Nat)} (X : Cx cs U) {i k : Nat} {c : Cls} (hc : cs[i]? = some c) : k ∈ U.getD i [] ↔ Up cs i k:=by
 have hi:=(List.getElem?_eq_some_iff.1 hc).1
 obtain ⟨u,hu⟩ : ∃ u,U[i]? = some u:=⟨_,List.getElem?_eq_getElem (by rw [X.ul]; exact hi)⟩
 rw [List.getD_eq_getElem?_getD,hu]
 exact ups_mem (X.up i u hu) X.li k
theorem Cx.cons {cs : List Cls} {U : List (List Nat)} (X : Cx cs U) {i : Nat} {c : Cls} (hc : cs[i]? = some c) : chainF cs c.name = i :: chainF cs (supOf cs i):=
 chainF_cons X.ul X.up X.li X.ok X.ac (X.un i c hc)
theorem dsp_mem {cs : List Cls} {sig : Str} {k : Nat} {m : Mth} : ∀ {l : List Nat},dspF cs sig l = some (k,m) → k ∈ l ∧ ownF cs k sig = some m
 | [],h => by cases h
 | i :: l,h => by
  simp only [dspF] at h
  cases ho : ownF cs i sig with
  | some x =>
   rw [ho] at h
   simp only [Option.some.injEq,Prod.mk.injEq] at h
   obtain ⟨rfl,rfl⟩:=h
   exact ⟨List.mem_cons_self,ho⟩
  | none =>
   rw [ho] at h
   obtain ⟨h1,h2⟩:=dsp_mem h
   exact ⟨List.mem_cons_of_mem _ h1,h2⟩
def inS (sig : Str) (out : List (Str × Str × Mth)) : Prop:=∃ y ∈ out,y.1 = sig
theorem addM_mem {owner : Str} {out : List (Str × Str × Mth)} {m : Mth} {x : Str × Str × Mth} : x ∈ addM owner out m ↔ x ∈ out ∨ (¬inS x.1 out ∧ sigT m.name m.params = x.1 ∧ m = x.2.2 ∧ x.2.1 = owner):=by
 unfold addM
 split
 ·rename_i h
  rw [idxM_mem] at h
  constructor
  ·exact .inl
  ·rintro (h1 | ⟨h1,h2,-⟩)
   ·exact h1
   ·exact absurd (h2 ▸ h) h1
 ·rename_i h
  rw [idxM_mem] at h
  rw [List.mem_append,List.mem_singleton]
  constructor
  ·rintro (h1 | rfl)
   ·exact .inl h1
   ·exact .inr ⟨h,rfl,rfl,rfl⟩
  ·rintro (h1 | ⟨h1,h2,h3,h4⟩)
   ·exact .inl h1
   ·right
    obtain ⟨a,b,c⟩:=x
    simp only at h2 h3 h4
    rw [h2,h3,h4]
theorem inS_addM {owner sig : Str} {out : List (Str × Str × Mth)} {m : Mth} : inS sig (addM owner out m) ↔ inS sig out ∨ sigT m.name m.params = sig:=by
 constructor
 ·rintro ⟨y,hy,rfl⟩
  rcases addM_mem.1 hy with h | ⟨-,h,-⟩
  ·exact .inl ⟨y,h,rfl⟩
  ·exact .inr h
 ·intro h
  by_cases hi : inS sig out
  ·obtain ⟨y,hy,hs⟩:=hi
   exact ⟨y,addM_mem.2 (.inl hy),hs⟩
  ·rcases h with h | h
   ·exact absurd h hi
   ·exact ⟨(sig,owner,m),addM_mem.2 (.inr ⟨hi,h,rfl,rfl⟩),rfl⟩
theorem addF_mem {owner : Str} {x : Str × Str × Mth} : ∀ {ms : List Mth} {out : List (Str × Str × Mth)},x ∈ ms.foldl (addM owner) out ↔ x ∈ out ∨ (¬inS x.1 out ∧ ownM x.1 ms = some x.2.2 ∧ x.2.1 = owner)
 | [],out => by simp [ownM]
 | m :: ms,out => by
  rw [List.foldl_cons,addF_mem,addM_mem,inS_addM]
  simp only [ownM]
  by_cases hs : sigT m.name m.params = x.1
  ·simp only [hs,or_true,not_true_eq_false,false_and,or_false,if_true,true_and,Option.some.injEq]
  ·simp only [hs,or_false,false_and,and_false,if_false]
theorem inS_addF {owner sig : Str} : ∀ {ms : List Mth} {out : List (Str × Str × Mth)},inS sig (ms.foldl (addM owner) out) ↔ inS sig out ∨ (ownM sig ms).isSome = true
 | [],out => by simp [ownM]
 | m :: ms,out => by
  rw [List.foldl_cons,inS_addF,inS_addM]
  simp only [ownM]
  by_cases hs : sigT m.name m.params = sig
  ·simp [hs]
  ·simp [hs]
theorem addR_mem {cs : List Cls} {x : Str × Str × Mth} : ∀ {l : List Nat} {out : List (Str × Str × Mth)},x ∈ l.foldl (addC cs) out ↔ x ∈ out ∨ (¬inS x.1 out ∧ ∃ j,dspF cs x.1 l = some (j,x.2.2) ∧ x.2.1 = nameAt cs j)
 | [],out => by simp [dspF]
 | i :: l,out => by
  rw [List.foldl_cons,addR_mem]
  simp only [dspF,addC,ownF]
  cases hc : cs[i]? with
  | none => simp
  | some c =>
   simp only
   rw [addF_mem,inS_addF]
   cases ho : ownM x.1 c.meths with
   | none => simp
   | some m =>
    simp only [Option.isSome_some,or_true,not_true_eq_false,false_and,or_false,Option.some.injEq,Prod.mk.injEq]
    constructor
    ·rintro (h | ⟨h1,h2,h3⟩)
     ·exact .inl h
     ·exact .inr ⟨h1,i,⟨rfl,h2⟩,by rw [h3,nameAt,hc]⟩
    ·rintro (h | ⟨h1,j,⟨rfl,h2⟩,h3⟩)
     ·exact .inl h
     ·exact .inr ⟨h1,h2,by rw [h3,nameAt,hc]⟩
theorem methF_mem {cs : List Cls} {U : List (List Nat)} {s : Str} {x : Str × Str × Mth} : x ∈ methF cs U s ↔ ∃ j,dispF cs U s x.1 = some (j,x.2.2) ∧ x.2.1 = nameAt cs j:=by
 unfold methF dispF
 rw [addR_mem]
 simp [inS]
theorem lookM_mem {k : Str} : ∀ {l : List (Str × Str × Mth)},k ∈ sigsM l → lookM k l ∈ l ∧ (lookM k l).1 = k
 | [],h => by cases h
 | x :: l,h => by
  unfold lookM
  split
  ·exact ⟨List.mem_cons_self,by assumption⟩
  ·rename_i hne
   rcases List.mem_cons.1 h with rfl | h
   ·exact absurd rfl hne
   ·obtain ⟨h1,h2⟩:=lookM_mem h
    exact ⟨List.mem_cons_of_mem _ h1,h2⟩
theorem lookM_of {x : Str × Str × Mth} : ∀ {l : List (Str × Str × Mth)},(sigsM l).Nodup → x ∈ l → lookM x.1 l = x
 | [],_,h => by cases h
 | y :: l,hn,h => by
  change (y.1 :: sigsM l).Nodup at hn
  rw [List.nodup_cons] at hn
  unfold lookM
  rcases List.mem_cons.1 h with rfl | h
  ·rw [if_pos rfl]
  ·rw [if_neg (fun e => hn.1 (by rw [e]; exact List.mem_map_of_mem h))]
   exact lookM_of hn.2 h
theorem sortM_mem {l : List (Str × Str × Mth)} (hn : (sigsM l).Nodup) {x : Str × Str × Mth} : x ∈ sortM l ↔ x ∈ l:=by
 unfold sortM
 rw [List.mem_map]
 constructor
 ·rintro ⟨k,hk,rfl⟩
  exact (lookM_mem ((sortB_perm _).mem_iff.1 hk)).1
 ·intro h
  exact ⟨x.1,(sortB_perm _).mem_iff.2 (List.mem_map_of_mem h),lookM_of hn h⟩
theorem methS_mem {cs : List Cls} {U : List (List Nat)} {s : Str} {x : Str × Str × Mth} : x ∈ methS cs U s ↔ ∃ j,dispF cs U s x.1 = some (j,x.2.2) ∧ x.2.1 = nameAt cs j:=by
 unfold methS
 rw [sortM_mem (sigs_meth cs U s)]
 exact methF_mem
end Go.Proofs.YtmeakjgbjldkdaaGreat.Ai
namespace Go.Proofs.YtmeakjgbjldkdaaGreat.Ai
open Go
variable {pr : Prims} {F : Nat → Option IFn}
structure LibO (pr : Prims) (F : Nat → Option IFn) : Prop extends LibN pr F where
 f7 : Has pr F 7 i7
 f8 : Has pr F 8 i8
theorem tab_cx {H : List Blk} {n mb z zb : Nat} {tg tb : Tag} {cs : List Cls} {U : List (List Nat)} {o1 o2 o3 sl : AV} (T : TabU H n mb cs z tg zb tb U o1 o2 o3 sl) (hall : allOk cs U) : Cx cs U:=⟨T.unlike,T.linked,T.okc,T.acyc,T.ulen,T.ups,hall⟩
theorem methS_len {cs : List Cls} {U : List (List Nat)} (hfw : Few cs) (hup : ∀ i l,U[i]? = some l → IsUps cs i l) (s : Str) : (methS cs U s).length ≤ 64 * (cs.length + 1):=by
 have:=methF_len hfw hup s
 unfold methS sortM sigsM
 rw [List.length_map,sortB_length,List.length_map]
 exact this
end Go.Proofs.YtmeakjgbjldkdaaGreat.Ai
namespace Go.Proofs.YtmeakjgbjldkdaaGreat.Ai
open Go
set_option maxRecDepth 100000
set_option maxHeartbeats 16000000
def F27a : {l : List IC // Tr.fn Tr.TT Tryz.f27 0 [[0,1],[0,1,5],[0,1,5,6],[0,1,5,6,11],[0,1,5,6,7],[0,5,6,7,22],[4],[0,5,6,7],[0,1,5,6],[0,1,5,6],[4]] = l}:=⟨_,by cbv⟩
def r27_0 : IC:=Tr.pk F27a.1 0
def r27_1 : IC:=Tr.pk F27a.1 1
def r27_2 : IC:=Tr.pk F27a.1 2
def r27_3 : IC:=Tr.pk F27a.1 3
def r27_4 : IC:=Tr.pk F27a.1 4
def r27_5 : IC:=Tr.pk F27a.1 5
def r27_6 : IC:=Tr.pk F27a.1 6
def r27_7 : IC:=Tr.pk F27a.1 7
def r27_8 : IC:=Tr.pk F27a.1 8
def r27_9 : IC:=Tr.pk F27a.1 9
def r27_10 : IC:=Tr.pk F27a.1 10
noncomputable def i27 : IFn:=⟨2,(.seq r27_0 (.seq r27_1 (.seq (.seq r27_2 (.block 0 (.loop [0,1,5,6] (.seq (.seq r27_3 (.cond (.tmp 11) (.skip) (.exit 0))) (.seq (.block 1 (.seq r27_4 (.seq (.seq r27_5 (.cond (.tmp 22) (.seq r27_6 .ret) (.skip))) (.seq r27_7 r27_8)))) r27_9))))) (.seq r27_10 .ret)))),[.tmp 4]⟩
theorem c27 : chkFn Tryz.prog Tryz.f27 i27 = true:=by kernel_rfl
def F24a : {l : List IC // Tr.fn Tr.TT Tryz.f24 0 [[0],[0,3],[0,3,4],[0,3,4,9],[0,3,4,5],[0,3,4,5,19],[0,3,4,5],[0,3,4,5],[0,3,4],[2]] = l}:=⟨_,by cbv⟩
def r24_0 : IC:=Tr.pk F24a.1 0
def r24_1 : IC:=Tr.pk F24a.1 1
def r24_2 : IC:=Tr.pk F24a.1 2
def r24_3 : IC:=Tr.pk F24a.1 3
def r24_4 : IC:=Tr.pk F24a.1 4
def r24_5 : IC:=Tr.pk F24a.1 5
def r24_6 : IC:=Tr.pk F24a.1 6
def r24_7 : IC:=Tr.pk F24a.1 7
def r24_8 : IC:=Tr.pk F24a.1 8
def r24_9 : IC:=Tr.pk F24a.1 9
noncomputable def i24 : IFn:=⟨1,(.seq r24_0 (.seq r24_1 (.seq (.seq r24_2 (.block 0 (.loop [0,3,4] (.seq (.seq r24_3 (.cond (.tmp 9) (.skip) (.exit 0))) (.seq (.block 1 (.seq r24_4 (.block 2 (.loop [0,3,4,5] (.seq (.seq r24_5 (.cond (.tmp 19) (.skip) (.exit 2))) (.seq (.block 3 r24_6) r24_7)))))) r24_8))))) (.seq r24_9 .ret)))),[.tmp 2]⟩
theorem c24 : chkFn Tryz.prog Tryz.f24 i24 = true:=by kernel_rfl
def F63a : {l : List IC // Tr.fn Tr.TT Tryz.f63 0 [[0,1],[0,1,5],[0,1,5,6],[0,1,5,6,7],[0,1,5,6,7,11],[0,1,5,6,7,23],[0,1,5,6,7],[0,1,5,6,7,29],[0,1,5,6,7],[0,1,5,6,7],[0,1,5,6,7],[1,5,42],[5],[4]] = l}:=⟨_,by cbv⟩
def r63_0 : IC:=Tr.pk F63a.1 0
def r63_1 : IC:=Tr.pk F63a.1 1
def r63_2 : IC:=Tr.pk F63a.1 2
def r63_3 : IC:=Tr.pk F63a.1 3
def r63_4 : IC:=Tr.pk F63a.1 4
def r63_5 : IC:=Tr.pk F63a.1 5
def r63_6 : IC:=Tr.pk F63a.1 6
def r63_7 : IC:=Tr.pk F63a.1 7
def r63_8 : IC:=Tr.pk F63a.1 8
def r63_9 : IC:=Tr.pk F63a.1 9
def r63_10 : IC:=Tr.pk F63a.1 10
def r63_11 : IC:=Tr.pk F63a.1 11
def r63_12 : IC:=Tr.pk F63a.1 12
def r63_13 : IC:=Tr.pk F63a.1 13
noncomputable def i63 : IFn:=⟨2,(.seq r63_0 (.seq r63_1 (.seq r63_2 (.seq (.seq r63_3 (.block 0 (.loop [0,1,5,6,7] (.seq (.seq r63_4 (.cond (.tmp 11) (.skip) (.exit 0))) (.seq (.block 1 (.seq (.seq r63_5 (.cond (.tmp 23) (.seq r63_6 (.seq r63_7 (.cond (.tmp 29) r63_8 (.skip)))) (.skip))) r63_9)) r63_10))))) (.seq (.seq r63_11 (.cond (.tmp 42) r63_12 (.skip))) (.seq r63_13 .ret)))))),[.tmp 4]⟩
theorem c63 : chkFn Tryz.prog Tryz.f63 i63 = true:=by kernel_rfl
end Go.Proofs.YtmeakjgbjldkdaaGreat.Ai
namespace Go.Proofs.YtmeakjgbjldkdaaGreat.Ai
open Go
variable {pr : Prims} {F : Nat → Option IFn}
structure LibJ (pr : Prims) (F : Nat → Option IFn) : Prop extends LibH pr F where
 f27 : Has pr F 27 i27
theorem qx_chain (L : LibJ pr F) {cs : List Cls} (hfew : cs.length ≤ 6000) (hokc : ∀ c ∈ cs,okCls c) (s : Str) {H : List Blk} {rw : List Nat} (hH : 0 < H.length) :
  ∃ (v : AV) (rw' : List Nat),IsL 1 v (ixRows (chainF cs s)) ∧ Rx rw rw' ∧ Det pr F 27 [lst 9 (cs.map clsRow),.str s] ⟨H,rw⟩ (.ret v) ⟨H,rw'⟩:=by
 have hm:=L.hm
 suffices h : Wp pr F 27 [lst 9 (cs.map clsRow),.str s] ⟨H,rw⟩ fun r S' => ∃ (v : AV) (rw' : List Nat),IsL 1 v (ixRows (chainF cs s)) ∧ Rx rw rw' ∧ r = .ret v ∧ S' = ⟨H,rw'⟩ by
  obtain ⟨r,S',hd,v,rw',h1,h2,rfl,rfl⟩:=h.det hm
  exact ⟨v,rw',h1,h2,hd⟩
 obtain ⟨b,hb⟩ : ∃ b,H[0]? = some b:=⟨_,List.getElem?_eq_getElem hH⟩
 have hlt:=hH
 have hlm : (cs.map clsRow).length = cs.length:=List.length_map _
 have hR : Rx rw rw:=Rx.rfl
 refine at_start_hp hm L.f27.1 L.f27.2 rfl (hp_of hb) ?_
 refine' stI
 refine at_loop hm (fun mm e S' => ∃ (q : Nat) (vis : List Nat) (nm : Str) (l : AV) (J : List Blk) (rw3 : List Nat),S' = ⟨hp H 0 b J,rw3⟩ ∧ q ≤ cs.length + 1 ∧ vis.length = q ∧ chainF cs s = vis ++ chainL cs (cs.length + 1 - q) nm ∧ Lst rw 1 l (ixRows vis) rw3 ∧ Rx rw rw3 ∧ mm = cs.length + 1 - q ∧
  e = [(0,lst 9 (cs.map clsRow)),(1,.str nm),(5,l),(6,.int .i64 q)]) ?_ (m:=cs.length + 1) ⟨0,[],s,_,[],rw,rfl,by omega,rfl,rfl,Lst.nil,Rx.rfl,rfl,rfl⟩
 clear hR
 rintro mm e S' ⟨q,vis,nm,l,J,rw3,rfl,hq0,hvl,hch,hl,hR,rfl,rfl⟩
 by_cases hq1 : q ≤ cs.length
 ·have hx:=qx_place L.toLibE cs hfew nm
  rw [show cs.length + 1 - q = (cs.length - q) + 1 by omega] at hch
  simp only [chainL] at hch
  cases hpl : place cs nm with
  | none =>
   simp only [placeI,hpl] at hx
   simp only [hpl,List.append_nil] at hch
   refine' stI
   exact fin_ret rfl ((hl.ext hRt).isL.below _) (hp_take hlt) ⟨_,_,by rw [hch]; exact hl.isL,hR,rfl,st_of hb⟩
  | some i =>
   simp only [placeI,hpl] at hx
   simp only [hpl] at hch
   obtain ⟨c,hc,-⟩:=place_get hpl
   have hi:=(List.getElem?_eq_some_iff.1 hc).1
   have hcr : (cs.map clsRow)[i]? = some (clsRow c):=by rw [List.getElem?_map,hc]; rfl
   have hl9 : lst 9 (cs.map clsRow) = .list 9 .dead (cs.map clsRow):=lst_of_lt (i:=i) (by omega)
   have hso : supOf cs i = c.super:=by unfold supOf; rw [hc]
   have hne : ¬nm = []:=by
    intro h
    rw [h,place_nil hokc] at hpl
    cases hpl
   rw [hl9] at hx ⊢
   refine' stI
   refine id_append ?_
   refine g_append rfl rfl rfl ?_
   refine ap_lst (row:=ixRow i) (hl.ext hRt) hR (by simp only [ixRows_len,maxRow]; omega) (by simp only [ixRows_len,maxRow]; omega) (by omega) ?_
   intro l4 rw4 hl4 hR4
   refine zrk7 ?_
   refine' stI
   refine ⟨cs.length + 1 - (q + 1),by omega,q + 1,vis ++ [i],c.super,l4,_,rw4,rfl,by omega,by simp [hvl],?_,by rw [ixRows_append]; exact hl4,hR4,rfl,by first | rfl | (rw [hl9]; rfl)⟩
   rw [hch,hso,List.append_assoc,show cs.length + 1 - (q + 1) = cs.length - q by omega]
   rfl
 ·refine' stI
  rw [show cs.length + 1 - q = 0 by omega] at hch
  simp only [chainL,List.append_nil] at hch
  exact fin_ret rfl (hl.isL.below _) (hp_take hlt) ⟨_,_,by rw [hch]; exact hl.isL,hR,rfl,st_of hb⟩
end Go.Proofs.YtmeakjgbjldkdaaGreat.Ai
namespace Go.Proofs.YtmeakjgbjldkdaaGreat.Ai
open Go
variable {pr : Prims} {F : Nat → Option IFn}
theorem joinT_snoc (sep x : Str) : ∀ (l : List Str),joinT sep (l ++ [x]) = if l = [] then x else joinT sep l ++ sep ++ x:=by
 intro l
 induction l with
 | nil => simp [joinT]
 | cons y l ih =>
  cases l with
  | nil => simp [joinT]
  | cons w l =>
   simp only [List.cons_append,joinT] at ih ⊢
   rw [ih]
   simp
theorem qx_bind (L : LibE pr F) (x : Xp) : TxOk pr F 229 [.agg (exRow x)] (.int .i64 (bindF x.op)):=by
 have hm:=L.hm
 refine TxOk.of hm ?_
 intro H rw hH
 have hR : Rx rw rw:=Rx.rfl
 obtain ⟨op,name,args,ty,a⟩:=x
 simp only [Xp.op]
 have hd1:=fun S => det_Level L.toLibX S op
 have hle : levelF op ≤ 5:=by
  unfold levelF
  repeat' split
  all_goals omega
 unfold bindF
 refine at_start hm L.f229.1 L.f229.2 rfl ?_
 refine at_seq hm ?_
 unfold r229_0
 show At pr F H.length (fin _ H.length _) _ _ _ _
 refine at_box hm rfl ?_
 intro H1 hH1 hlen hlt
 refine' stH
 all_goals refine fin_retF hH1 rfl rfl ⟨_,hR,?_,rfl⟩
 all_goals first
  | rw [if_pos (Or.inl (by assumption))]
  | rw [if_pos (Or.inr (by assumption))]
  | rw [if_neg (by rintro (h | h) <;> contradiction),if_pos (by omega)]
  | rw [if_neg (by rintro (h | h) <;> contradiction),if_neg (by omega)]
theorem qx_at (L : LibE pr F) (x : Xp) (k : Int) (hx : TxOk pr F 146 [.agg (exRow x)] (.str (exText x))) (hs : (exText x).length ≤ 2147483648) : TxOk pr F 200 [.agg (exRow x),.int .i64 k] (.str (atT (bindF x.op,exText x) k)):=by
 have hm:=L.hm
 refine TxOk.of hm ?_
 intro H rw hH
 have hR : Rx rw rw:=Rx.rfl
 have hb:=qx_bind L x
 refine at_start hm L.f200.1 L.f200.2 rfl ?_
 refine at_seq hm ?_
 unfold r200_0
 show At pr F H.length (fin _ H.length _) _ _ _ _
 refine at_box hm rfl ?_
 intro H1 hH1 hlen hlt
 refine' stH
 ·exact fin_retF hH1 rfl rfl ⟨_,hR,by rw [atT,if_neg (by omega)],rfl⟩
 ·exact fin_retF hH1 rfl rfl ⟨_,hR,by rw [atT,if_pos (by omega)],rfl⟩
theorem qx_texts (L : LibE pr F) (xs : List Xp) (z : Nat) (tag : Tag) (hz : xs ≠ [] → z = 5) (hx : ∀ x ∈ xs,TxOk pr F 146 [.agg (exRow x)] (.str (exText x)) ∧ (exText x).length ≤ 2147483648) (hs : ((xs.map exText).map fun x => x.length + 2).sum ≤ 2147483648) (hxs : xs.length ≤ 42000000) :
  TxOk pr F 199 [.list z tag (exRows xs)] (.str (joinT [44,32] (xs.map exText))):=by
 have hm:=L.hm
 have hlx:=exRows_len xs
 refine TxOk.of0 hm L.f199.1 L.f199.2 rfl ?_
 intro H rw b hlt
 have hR : Rx rw rw:=Rx.rfl
 refine' stH
 refine at_loop hm (fun mm e S' => ∃ (q : Nat) (s : Str) (J : List Blk) (rw3 : List Nat),S' = ⟨hp H 0 b J,rw3⟩ ∧ q ≤ xs.length ∧ s = joinT [44,32] ((xs.take q).map exText) ∧ s.length ≤ 2147483648 ∧ Rx rw rw3 ∧ mm = xs.length - q ∧ e = [(0,.list z tag (exRows xs)),(3,.str s),(4,.int .i64 q)]) ?_ (m:=xs.length) ⟨0,_,[],rw,rfl,by omega,rfl,by simp [joinT],Rx.rfl,rfl,rfl⟩
 clear hR
 rintro mm e S' ⟨q,s,J,rw3,rfl,hq0,hsq,hsl,hR,rfl,rfl⟩
 by_cases hq1 : q < xs.length
 ·obtain ⟨x,hxq⟩ : ∃ x,xs[q]? = some x:=⟨_,List.getElem?_eq_getElem hq1⟩
  have hxr:=exRows_get hxq
  have hz5 : z = 5:=hz (by intro h; rw [h] at hq1; simp at hq1)
  subst hz5
  obtain ⟨hx1,hx2⟩:=hx x (List.mem_of_getElem? hxq)
  have hnew : ∀ s',s' = joinT [44,32] ((xs.take (q + 1)).map exText) → s'.length ≤ 2147483648:=by
   intro s' h
   have h1:=len_joinT [44,32] ((xs.take (q + 1)).map exText)
   rw [h]
   refine Nat.le_trans h1 (Nat.le_trans ?_ hs)
   have h2 : xs.map exText = (xs.take (q + 1)).map exText ++ (xs.drop (q + 1)).map exText:=by rw [← List.map_append,List.take_append_drop]
   rw [h2,List.map_append,List.sum_append]
   exact Nat.le_add_right _ _
  have hjs : joinT [44,32] ((xs.take (q + 1)).map exText) = if q = 0 then exText x else s ++ [44,32] ++ exText x:=by
   rw [take_snoc hxq,List.map_append,List.map_cons,List.map_nil,joinT_snoc,hsq]
   by_cases h0 : q = 0
   ·subst h0; simp
   ·rw [if_neg h0,if_neg]
    intro h
    have:=congrArg List.length h
    simp only [List.length_map,List.length_take,List.length_nil] at this
    omega
  refine' stH
  ·have e1 : s ++ [44,32] ++ exText x = joinT [44,32] ((xs.take (q + 1)).map exText):=by rw [hjs,if_neg (by omega)]
   exact ⟨xs.length - (q + 1),by omega,q + 1,_,J,rwt,rfl,by omega,e1,hnew _ e1,hR,rfl,rfl⟩
  ·have e0 : q = 0:=by omega
   have e1 : s ++ exText x = joinT [44,32] ((xs.take (q + 1)).map exText):=by
    rw [hjs,if_pos e0,hsq,e0]
    simp [joinT]
   exact ⟨xs.length - (q + 1),by omega,q + 1,_,J,rwt,rfl,by omega,e1,hnew _ e1,hR,rfl,rfl⟩
 ·refine' stH
  rw [show q = xs.length by omega,List.take_length] at hsq
  exact fin_ret rfl rfl (hp_take hlt) ⟨_,hR,by rw [hsq],rfl⟩
end Go.Proofs.YtmeakjgbjldkdaaGreat.Ai
namespace Go.Proofs.YtmeakjgbjldkdaaGreat.Ai
open Go
variable {pr : Prims} {F : Nat → Option IFn}
theorem qx_leaf1 (L : LibE pr F) {op name : Str} {args : List Xp} {ty : List Ty} {a : Int} (hka : okExs args) (hkt : okTys ty) (hw : 1 + op.length + name.length + wExs args + wTys ty ≤ 42000000) (IH : ∀ y,wEx y < 1 + op.length + name.length + wExs args + wTys ty → okEx y → TxOk pr F 146 [.agg (exRow y)] (.str (exText y))) (IHt : ∀ t,wTy t < 1 + op.length + name.length + wExs args + wTys ty → okTy t → TxOk pr F 97 [.agg (tyRow t)] (.str (tyText t))) (hop : (op = [110,117,109] ∨ op = [118,97,114]) ∧ args = [] ∧ ty = []) :
  TxOk pr F 146 [.agg (exRow (.mk op name args ty a))] (.str (exText (.mk op name args ty a))):=by
 have hm:=L.hm
 refine TxOk.of hm ?_
 intro H rw hH
 have hal:=wExs_len args
 have hxs:=exRows_len args
 have hR : Rx rw rw:=Rx.rfl
 have hA : ∀ y ∈ args,TxOk pr F 146 [.agg (exRow y)] (.str (exText y)) ∧ (exText y).length ≤ 2147483648:=by
  intro y hy
  have h2:=wExs_mem hy
  have h3:=len_exText y
  exact ⟨IH y (by omega) (okExs_mem hka hy),by omega⟩
 have hsum:=sum_texts args
 have hlt0:=len_exTexts args
 have hg0:=exTexts_getD 0 args
 have hg1:=exTexts_getD 1 args
 have hmap:=exTexts_map args
 have hty:=len_tysText ty
 have hnm : name.length ≤ 42000000:=by omega
 have hopl : op.length ≤ 42000000:=by omega
 simp only [exText]
 refine at_start hm L.f146.1 L.f146.2 rfl ?_
 refine at_seq hm ?_
 unfold r146_0
 show At pr F H.length (fin _ H.length _) _ _ _ _
 refine at_box hm rfl ?_
 intro H1 hH1 hlen hlt
 rcases hop with ⟨rfl | rfl,rfl,rfl⟩
 all_goals
  refine' stH
  exact fin_retF hH1 rfl rfl ⟨_,hR,rfl,rfl⟩
theorem qx_leaf2 (L : LibE pr F) {op name : Str} {args : List Xp} {ty : List Ty} {a : Int} (hka : okExs args) (hkt : okTys ty) (hw : 1 + op.length + name.length + wExs args + wTys ty ≤ 42000000) (IH : ∀ y,wEx y < 1 + op.length + name.length + wExs args + wTys ty → okEx y → TxOk pr F 146 [.agg (exRow y)] (.str (exText y))) (IHt : ∀ t,wTy t < 1 + op.length + name.length + wExs args + wTys ty → okTy t → TxOk pr F 97 [.agg (tyRow t)] (.str (tyText t))) (hop : (op = [116,114,117,101] ∨ op = [102,97,108,115,101] ∨ op = [110,117,108,108] ∨ op = [116,104,105,115] ∨ op = [114,101,97,100]) ∧ args = [] ∧ ty = []) :
  TxOk pr F 146 [.agg (exRow (.mk op name args ty a))] (.str (exText (.mk op name args ty a))):=by
 have hm:=L.hm
 refine TxOk.of hm ?_
 intro H rw hH
 have hal:=wExs_len args
 have hxs:=exRows_len args
 have hR : Rx rw rw:=Rx.rfl
 have hA : ∀ y ∈ args,TxOk pr F 146 [.agg (exRow y)] (.str (exText y)) ∧ (exText y).length ≤ 2147483648:=by
  intro y hy
  have h2:=wExs_mem hy
  have h3:=len_exText y
  exact ⟨IH y (by omega) (okExs_mem hka hy),by omega⟩
 have hsum:=sum_texts args
 have hlt0:=len_exTexts args
 have hg0:=exTexts_getD 0 args
 have hg1:=exTexts_getD 1 args
 have hmap:=exTexts_map args
 have hty:=len_tysText ty
 have hnm : name.length ≤ 42000000:=by omega
 have hopl : op.length ≤ 42000000:=by omega
 simp only [exText]
 refine at_start hm L.f146.1 L.f146.2 rfl ?_
 refine at_seq hm ?_
 unfold r146_0
 show At pr F H.length (fin _ H.length _) _ _ _ _
 refine at_box hm rfl ?_
 intro H1 hH1 hlen hlt
 rcases hop with ⟨rfl | rfl | rfl | rfl | rfl,rfl,rfl⟩
 all_goals
  refine' stH
  exact fin_retF hH1 rfl rfl ⟨_,hR,rfl,rfl⟩
end Go.Proofs.YtmeakjgbjldkdaaGreat.Ai
namespace Go.Proofs.YtmeakjgbjldkdaaGreat.Ai
open Go
variable {pr : Prims} {F : Nat → Option IFn}
theorem qx_len (L : LibE pr F) {op name : Str} {args : List Xp} {ty : List Ty} {a : Int} (hka : okExs args) (hkt : okTys ty) (hw : 1 + op.length + name.length + wExs args + wTys ty ≤ 42000000) (IH : ∀ y,wEx y < 1 + op.length + name.length + wExs args + wTys ty → okEx y → TxOk pr F 146 [.agg (exRow y)] (.str (exText y))) (IHt : ∀ t,wTy t < 1 + op.length + name.length + wExs args + wTys ty → okTy t → TxOk pr F 97 [.agg (tyRow t)] (.str (tyText t))) (hop : op = [108,101,110] ∧ (∃ x,args = [x]) ∧ ty = []) :
  TxOk pr F 146 [.agg (exRow (.mk op name args ty a))] (.str (exText (.mk op name args ty a))):=by
 have hm:=L.hm
 refine TxOk.of hm ?_
 intro H rw hH
 have hal:=wExs_len args
 have hxs:=exRows_len args
 have hR : Rx rw rw:=Rx.rfl
 have hA : ∀ y ∈ args,TxOk pr F 146 [.agg (exRow y)] (.str (exText y)) ∧ (exText y).length ≤ 2147483648:=by
  intro y hy
  have h2:=wExs_mem hy
  have h3:=len_exText y
  exact ⟨IH y (by omega) (okExs_mem hka hy),by omega⟩
 have hsum:=sum_texts args
 have hlt0:=len_exTexts args
 have hg0:=exTexts_getD 0 args
 have hg1:=exTexts_getD 1 args
 have hmap:=exTexts_map args
 have hty:=len_tysText ty
 have hnm : name.length ≤ 42000000:=by omega
 have hopl : op.length ≤ 42000000:=by omega
 simp only [exText]
 refine at_start hm L.f146.1 L.f146.2 rfl ?_
 refine at_seq hm ?_
 unfold r146_0
 show At pr F H.length (fin _ H.length _) _ _ _ _
 refine at_box hm rfl ?_
 intro H1 hH1 hlen hlt
 rcases hop with ⟨rfl,⟨y,rfl⟩,rfl⟩
 ·
  obtain ⟨hy1,hy2⟩:=hA y List.mem_cons_self
  have hy0r : (exRows [y])[0]? = some (exRow y):=rfl
  have e : textOf [108,101,110] name (exTexts [y]) (tysText []) = [108,101,110,40] ++ exText y ++ [41]:=by
   show [108,101,110,40] ++ ((exTexts [y]).getD 0 nulT).2 ++ [41] = _
   rw [hg0]; rfl
  rw [e]
  refine' stH
  exact fin_retF hH1 rfl rfl ⟨_,hR,rfl,rfl⟩
theorem qx_new (L : LibE pr F) {op name : Str} {args : List Xp} {ty : List Ty} {a : Int} (hka : okExs args) (hkt : okTys ty) (hw : 1 + op.length + name.length + wExs args + wTys ty ≤ 42000000) (IH : ∀ y,wEx y < 1 + op.length + name.length + wExs args + wTys ty → okEx y → TxOk pr F 146 [.agg (exRow y)] (.str (exText y))) (IHt : ∀ t,wTy t < 1 + op.length + name.length + wExs args + wTys ty → okTy t → TxOk pr F 97 [.agg (tyRow t)] (.str (tyText t))) (hop : op = [110,101,119] ∧ ty = []) :
  TxOk pr F 146 [.agg (exRow (.mk op name args ty a))] (.str (exText (.mk op name args ty a))):=by
 have hm:=L.hm
 refine TxOk.of hm ?_
 intro H rw hH
 have hal:=wExs_len args
 have hxs:=exRows_len args
 have hR : Rx rw rw:=Rx.rfl
 have hA : ∀ y ∈ args,TxOk pr F 146 [.agg (exRow y)] (.str (exText y)) ∧ (exText y).length ≤ 2147483648:=by
  intro y hy
  have h2:=wExs_mem hy
  have h3:=len_exText y
  exact ⟨IH y (by omega) (okExs_mem hka hy),by omega⟩
 have hsum:=sum_texts args
 have hlt0:=len_exTexts args
 have hg0:=exTexts_getD 0 args
 have hg1:=exTexts_getD 1 args
 have hmap:=exTexts_map args
 have hty:=len_tysText ty
 have hnm : name.length ≤ 42000000:=by omega
 have hopl : op.length ≤ 42000000:=by omega
 simp only [exText]
 refine at_start hm L.f146.1 L.f146.2 rfl ?_
 refine at_seq hm ?_
 unfold r146_0
 show At pr F H.length (fin _ H.length _) _ _ _ _
 refine at_box hm rfl ?_
 intro H1 hH1 hlen hlt
 rcases hop with ⟨rfl,rfl⟩
 ·
  have htx : TxOk pr F 199 [lst 5 (exRows args)] (.str (joinT [44,32] (args.map exText))):=by
   obtain ⟨z,tag,h,h2,-⟩:=isL_lst (sz:=5) (rows:=exRows args)
   rw [h]
   exact qx_texts L args z tag (fun hne => h2 (by intro h3; apply hne; cases args with | nil => rfl | cons u us => simp [exRows] at h3)) (fun y hy => hA y hy) (by omega) (by omega)
  have e : textOf [110,101,119] name (exTexts args) (tysText []) = [110,101,119,32] ++ name ++ [40] ++ joinT [44,32] (args.map exText) ++ [41]:=by
   show [110,101,119,32] ++ name ++ [40] ++ joinT [44,32] ((exTexts args).map (·.2)) ++ [41] = _
   rw [hmap]
  rw [e]
  have hj:=len_joinT [44,32] (args.map exText)
  simp only [List.length_cons,List.length_nil,Nat.reduceAdd,Nat.zero_add] at hj
  refine' stH
  exact fin_retF hH1 rfl rfl ⟨_,hR,rfl,rfl⟩
theorem qx_list (L : LibE pr F) {op name : Str} {args : List Xp} {ty : List Ty} {a : Int} (hka : okExs args) (hkt : okTys ty) (hw : 1 + op.length + name.length + wExs args + wTys ty ≤ 42000000) (IH : ∀ y,wEx y < 1 + op.length + name.length + wExs args + wTys ty → okEx y → TxOk pr F 146 [.agg (exRow y)] (.str (exText y))) (IHt : ∀ t,wTy t < 1 + op.length + name.length + wExs args + wTys ty → okTy t → TxOk pr F 97 [.agg (tyRow t)] (.str (tyText t))) (hop : op = [108,105,115,116] ∧ (∃ x z,args = [x,z]) ∧ ∃ t,ty = [t]) :
  TxOk pr F 146 [.agg (exRow (.mk op name args ty a))] (.str (exText (.mk op name args ty a))):=by
 have hm:=L.hm
 refine TxOk.of hm ?_
 intro H rw hH
 have hal:=wExs_len args
 have hxs:=exRows_len args
 have hR : Rx rw rw:=Rx.rfl
 have hA : ∀ y ∈ args,TxOk pr F 146 [.agg (exRow y)] (.str (exText y)) ∧ (exText y).length ≤ 2147483648:=by
  intro y hy
  have h2:=wExs_mem hy
  have h3:=len_exText y
  exact ⟨IH y (by omega) (okExs_mem hka hy),by omega⟩
 have hsum:=sum_texts args
 have hlt0:=len_exTexts args
 have hg0:=exTexts_getD 0 args
 have hg1:=exTexts_getD 1 args
 have hmap:=exTexts_map args
 have hty:=len_tysText ty
 have hnm : name.length ≤ 42000000:=by omega
 have hopl : op.length ≤ 42000000:=by omega
 simp only [exText]
 refine at_start hm L.f146.1 L.f146.2 rfl ?_
 refine at_seq hm ?_
 unfold r146_0
 show At pr F H.length (fin _ H.length _) _ _ _ _
 refine at_box hm rfl ?_
 intro H1 hH1 hlen hlt
 rcases hop with ⟨rfl,⟨y,y2,rfl⟩,⟨t,rfl⟩⟩
 ·
  have htx : TxOk pr F 199 [lst 5 (exRows [y,y2])] (.str (joinT [44,32] ([y,y2].map exText))):=qx_texts L [y,y2] 5 .dead (fun _ => rfl) (fun u hu => hA u hu) (by omega) (by omega)
  have hT:=IHt t (by simp only [wTys]; omega) hkt.1
  have hT2:=len_tyText t
  simp only [wTys] at hw
  have e : textOf [108,105,115,116] name (exTexts [y,y2]) (tysText [t]) = [108,105,115,116,32] ++ tyText t ++ [40] ++ joinT [44,32] ([y,y2].map exText) ++ [41]:=by
   show [108,105,115,116,32] ++ tysText [t] ++ [40] ++ joinT [44,32] ((exTexts [y,y2]).map (·.2)) ++ [41] = _
   rw [hmap]
   simp only [tysText]
  rw [e]
  have hj:=len_joinT [44,32] ([y,y2].map exText)
  simp only [List.length_cons,List.length_nil,Nat.reduceAdd,Nat.zero_add] at hj
  have htr : (tyRows [t])[0]? = some (tyRow t):=rfl
  have hl1 : (tyRows [t]).length = 1:=rfl
  refine' stH
  exact fin_retF hH1 rfl rfl ⟨_,hR,rfl,rfl⟩
end Go.Proofs.YtmeakjgbjldkdaaGreat.Ai
namespace Go.Proofs.YtmeakjgbjldkdaaGreat.Ai
open Go
variable {pr : Prims} {F : Nat → Option IFn}
theorem qx_field (L : LibE pr F) {op name : Str} {args : List Xp} {ty : List Ty} {a : Int} (hka : okExs args) (hkt : okTys ty) (hw : 1 + op.length + name.length + wExs args + wTys ty ≤ 42000000) (IH : ∀ y,wEx y < 1 + op.length + name.length + wExs args + wTys ty → okEx y → TxOk pr F 146 [.agg (exRow y)] (.str (exText y))) (IHt : ∀ t,wTy t < 1 + op.length + name.length + wExs args + wTys ty → okTy t → TxOk pr F 97 [.agg (tyRow t)] (.str (tyText t))) (hop : op = [102,105,101,108,100] ∧ (∃ x,args = [x]) ∧ ty = []) :
  TxOk pr F 146 [.agg (exRow (.mk op name args ty a))] (.str (exText (.mk op name args ty a))):=by
 have hm:=L.hm
 refine TxOk.of hm ?_
 intro H rw hH
 have hal:=wExs_len args
 have hxs:=exRows_len args
 have hR : Rx rw rw:=Rx.rfl
 have hA : ∀ y ∈ args,TxOk pr F 146 [.agg (exRow y)] (.str (exText y)) ∧ (exText y).length ≤ 2147483648:=by
  intro y hy
  have h2:=wExs_mem hy
  have h3:=len_exText y
  exact ⟨IH y (by omega) (okExs_mem hka hy),by omega⟩
 have hsum:=sum_texts args
 have hlt0:=len_exTexts args
 have hg0:=exTexts_getD 0 args
 have hg1:=exTexts_getD 1 args
 have hmap:=exTexts_map args
 have hty:=len_tysText ty
 have hnm : name.length ≤ 42000000:=by omega
 have hopl : op.length ≤ 42000000:=by omega
 simp only [exText]
 refine at_start hm L.f146.1 L.f146.2 rfl ?_
 refine at_seq hm ?_
 unfold r146_0
 show At pr F H.length (fin _ H.length _) _ _ _ _
 refine at_box hm rfl ?_
 intro H1 hH1 hlen hlt
 rcases hop with ⟨rfl,⟨y,rfl⟩,rfl⟩
 ·
  obtain ⟨hy1,hy2⟩:=hA y List.mem_cons_self
  have hy0r : (exRows [y])[0]? = some (exRow y):=rfl
  have ht:=qx_at L y 7 hy1 hy2
  have hl : (atT (bindF y.op,exText y) 7).length ≤ (exText y).length + 2:=len_atT _ _
  have e : textOf [102,105,101,108,100] name (exTexts [y]) (tysText []) = atT (bindF y.op,exText y) 7 ++ [46] ++ name:=by
   show atT ((exTexts [y]).getD 0 nulT) 7 ++ [46] ++ name = _
   rw [hg0]; rfl
  rw [e]
  refine' stH
  exact fin_retF hH1 rfl rfl ⟨_,hR,rfl,rfl⟩
theorem qx_call (L : LibE pr F) {op name : Str} {args : List Xp} {ty : List Ty} {a : Int} (hka : okExs args) (hkt : okTys ty) (hw : 1 + op.length + name.length + wExs args + wTys ty ≤ 42000000) (IH : ∀ y,wEx y < 1 + op.length + name.length + wExs args + wTys ty → okEx y → TxOk pr F 146 [.agg (exRow y)] (.str (exText y))) (IHt : ∀ t,wTy t < 1 + op.length + name.length + wExs args + wTys ty → okTy t → TxOk pr F 97 [.agg (tyRow t)] (.str (tyText t))) (hop : op = [99,97,108,108] ∧ (∃ x l,args = x :: l) ∧ ty = []) :
  TxOk pr F 146 [.agg (exRow (.mk op name args ty a))] (.str (exText (.mk op name args ty a))):=by
 have hm:=L.hm
 refine TxOk.of hm ?_
 intro H rw hH
 have hal:=wExs_len args
 have hxs:=exRows_len args
 have hR : Rx rw rw:=Rx.rfl
 have hA : ∀ y ∈ args,TxOk pr F 146 [.agg (exRow y)] (.str (exText y)) ∧ (exText y).length ≤ 2147483648:=by
  intro y hy
  have h2:=wExs_mem hy
  have h3:=len_exText y
  exact ⟨IH y (by omega) (okExs_mem hka hy),by omega⟩
 have hsum:=sum_texts args
 have hlt0:=len_exTexts args
 have hg0:=exTexts_getD 0 args
 have hg1:=exTexts_getD 1 args
 have hmap:=exTexts_map args
 have hty:=len_tysText ty
 have hnm : name.length ≤ 42000000:=by omega
 have hopl : op.length ≤ 42000000:=by omega
 simp only [exText]
 refine at_start hm L.f146.1 L.f146.2 rfl ?_
 refine at_seq hm ?_
 unfold r146_0
 show At pr F H.length (fin _ H.length _) _ _ _ _
 refine at_box hm rfl ?_
 intro H1 hH1 hlen hlt
 rcases hop with ⟨rfl,⟨y,l,rfl⟩,rfl⟩
 ·
  obtain ⟨hy1,hy2⟩:=hA y List.mem_cons_self
  have hy0r : (exRows (y :: l))[0]? = some (exRow y):=rfl
  have ht:=qx_at L y 7 hy1 hy2
  have hl : (atT (bindF y.op,exText y) 7).length ≤ (exText y).length + 2:=len_atT _ _
  have hsl:=sum_texts l
  simp only [wExs,exRows,List.length_cons] at hw hal hxs
  have htx:=qx_texts L l 5 .dead (fun _ => rfl) (fun u hu => hA u (List.mem_cons_of_mem _ hu)) (by omega) (by omega)
  have e : textOf [99,97,108,108] name (exTexts (y :: l)) (tysText []) = atT (bindF y.op,exText y) 7 ++ [46] ++ name ++ [40] ++ joinT [44,32] (l.map exText) ++ [41]:=by
   show atT ((exTexts (y :: l)).getD 0 nulT) 7 ++ [46] ++ name ++ [40] ++ joinT [44,32] (((exTexts (y :: l)).drop 1).map (·.2)) ++ [41] = _
   rw [hg0,exTexts_cons]
   show atT (bindF y.op,exText y) 7 ++ [46] ++ name ++ [40] ++ joinT [44,32] ((exTexts l).map (·.2)) ++ [41] = _
   rw [exTexts_map]
  rw [e]
  have hj:=len_joinT [44,32] (l.map exText)
  simp only [List.length_cons,List.length_nil,Nat.reduceAdd,Nat.zero_add] at hj
  refine' stH
  refine g_q rfl (v:=.list 5 .dead (exRows l)) slice_tailG ?_
  refine' stH
  exact fin_retF hH1 rfl rfl ⟨_,hR,rfl,rfl⟩
theorem qx_index (L : LibE pr F) {op name : Str} {args : List Xp} {ty : List Ty} {a : Int} (hka : okExs args) (hkt : okTys ty) (hw : 1 + op.length + name.length + wExs args + wTys ty ≤ 42000000) (IH : ∀ y,wEx y < 1 + op.length + name.length + wExs args + wTys ty → okEx y → TxOk pr F 146 [.agg (exRow y)] (.str (exText y))) (IHt : ∀ t,wTy t < 1 + op.length + name.length + wExs args + wTys ty → okTy t → TxOk pr F 97 [.agg (tyRow t)] (.str (tyText t))) (hop : op = [105,110,100,101,120] ∧ (∃ x z,args = [x,z]) ∧ ty = []) :
  TxOk pr F 146 [.agg (exRow (.mk op name args ty a))] (.str (exText (.mk op name args ty a))):=by
 have hm:=L.hm
 refine TxOk.of hm ?_
 intro H rw hH
 have hal:=wExs_len args
 have hxs:=exRows_len args
 have hR : Rx rw rw:=Rx.rfl
 have hA : ∀ y ∈ args,TxOk pr F 146 [.agg (exRow y)] (.str (exText y)) ∧ (exText y).length ≤ 2147483648:=by
  intro y hy
  have h2:=wExs_mem hy
  have h3:=len_exText y
  exact ⟨IH y (by omega) (okExs_mem hka hy),by omega⟩
 have hsum:=sum_texts args
 have hlt0:=len_exTexts args
 have hg0:=exTexts_getD 0 args
 have hg1:=exTexts_getD 1 args
 have hmap:=exTexts_map args
 have hty:=len_tysText ty
 have hnm : name.length ≤ 42000000:=by omega
 have hopl : op.length ≤ 42000000:=by omega
 simp only [exText]
 refine at_start hm L.f146.1 L.f146.2 rfl ?_
 refine at_seq hm ?_
 unfold r146_0
 show At pr F H.length (fin _ H.length _) _ _ _ _
 refine at_box hm rfl ?_
 intro H1 hH1 hlen hlt
 rcases hop with ⟨rfl,⟨y,y2,rfl⟩,rfl⟩
 ·
  obtain ⟨hy1,hy2⟩:=hA y List.mem_cons_self
  have hy0r : (exRows [y,y2])[0]? = some (exRow y):=rfl
  have hy1r : (exRows [y,y2])[1]? = some (exRow y2):=rfl
  obtain ⟨hy3,hy4⟩:=hA y2 (by simp)
  have ht:=qx_at L y 7 hy1 hy2
  have hl : (atT (bindF y.op,exText y) 7).length ≤ (exText y).length + 2:=len_atT _ _
  have e : textOf [105,110,100,101,120] name (exTexts [y,y2]) (tysText []) = atT (bindF y.op,exText y) 7 ++ [91] ++ exText y2 ++ [93]:=by
   show atT ((exTexts [y,y2]).getD 0 nulT) 7 ++ [91] ++ ((exTexts [y,y2]).getD 1 nulT).2 ++ [93] = _
   rw [hg0,hg1]; rfl
  rw [e]
  refine' stH
  exact fin_retF hH1 rfl rfl ⟨_,hR,rfl,rfl⟩
end Go.Proofs.YtmeakjgbjldkdaaGreat.Ai
namespace Go.Proofs.YtmeakjgbjldkdaaGreat.Ai
open Go
variable {pr : Prims} {F : Nat → Option IFn}
theorem qx_neg (L : LibE pr F) {op name : Str} {args : List Xp} {ty : List Ty} {a : Int} (hka : okExs args) (hkt : okTys ty) (hw : 1 + op.length + name.length + wExs args + wTys ty ≤ 42000000) (IH : ∀ y,wEx y < 1 + op.length + name.length + wExs args + wTys ty → okEx y → TxOk pr F 146 [.agg (exRow y)] (.str (exText y))) (IHt : ∀ t,wTy t < 1 + op.length + name.length + wExs args + wTys ty → okTy t → TxOk pr F 97 [.agg (tyRow t)] (.str (tyText t))) (hop : (op = [110,101,103] ∨ op = [110,111,116]) ∧ (∃ x,args = [x]) ∧ ty = []) :
  TxOk pr F 146 [.agg (exRow (.mk op name args ty a))] (.str (exText (.mk op name args ty a))):=by
 have hm:=L.hm
 refine TxOk.of hm ?_
 intro H rw hH
 have hal:=wExs_len args
 have hxs:=exRows_len args
 have hR : Rx rw rw:=Rx.rfl
 have hA : ∀ y ∈ args,TxOk pr F 146 [.agg (exRow y)] (.str (exText y)) ∧ (exText y).length ≤ 2147483648:=by
  intro y hy
  have h2:=wExs_mem hy
  have h3:=len_exText y
  exact ⟨IH y (by omega) (okExs_mem hka hy),by omega⟩
 have hsum:=sum_texts args
 have hlt0:=len_exTexts args
 have hg0:=exTexts_getD 0 args
 have hg1:=exTexts_getD 1 args
 have hmap:=exTexts_map args
 have hty:=len_tysText ty
 have hnm : name.length ≤ 42000000:=by omega
 have hopl : op.length ≤ 42000000:=by omega
 simp only [exText]
 refine at_start hm L.f146.1 L.f146.2 rfl ?_
 refine at_seq hm ?_
 unfold r146_0
 show At pr F H.length (fin _ H.length _) _ _ _ _
 refine at_box hm rfl ?_
 intro H1 hH1 hlen hlt
 rcases hop with ⟨rfl | rfl,⟨y,rfl⟩,rfl⟩
 all_goals
   obtain ⟨hy1,hy2⟩:=hA y List.mem_cons_self
   have hy0r : (exRows [y])[0]? = some (exRow y):=rfl
   have ht:=qx_at L y 6 hy1 hy2
   have hl : (atT (bindF y.op,exText y) 6).length ≤ (exText y).length + 2:=len_atT _ _
   refine' stH
   refine fin_retF hH1 rfl rfl ⟨_,hR,?_,rfl⟩
   first
    | (show _ = Res.ret (AV.str ([45] ++ atT ((exTexts [y]).getD 0 nulT) 6)); rw [hg0]; rfl)
    | (show _ = Res.ret (AV.str ([33] ++ atT ((exTexts [y]).getD 0 nulT) 6)); rw [hg0]; rfl)
end Go.Proofs.YtmeakjgbjldkdaaGreat.Ai
namespace Go.Proofs.YtmeakjgbjldkdaaGreat.Ai
open Go
variable {pr : Prims} {F : Nat → Option IFn}
theorem qx_bin (L : LibE pr F) {op name : Str} {args : List Xp} {ty : List Ty} {a : Int} (hka : okExs args) (hkt : okTys ty) (hw : 1 + op.length + name.length + wExs args + wTys ty ≤ 42000000) (IH : ∀ y,wEx y < 1 + op.length + name.length + wExs args + wTys ty → okEx y → TxOk pr F 146 [.agg (exRow y)] (.str (exText y))) (IHt : ∀ t,wTy t < 1 + op.length + name.length + wExs args + wTys ty → okTy t → TxOk pr F 97 [.agg (tyRow t)] (.str (tyText t))) (hop : 0 ≤ levelF op ∧ (∃ x z,args = [x,z]) ∧ ty = []) :
  TxOk pr F 146 [.agg (exRow (.mk op name args ty a))] (.str (exText (.mk op name args ty a))):=by
 have hm:=L.hm
 refine TxOk.of hm ?_
 intro H rw hH
 have hal:=wExs_len args
 have hxs:=exRows_len args
 have hR : Rx rw rw:=Rx.rfl
 have hA : ∀ y ∈ args,TxOk pr F 146 [.agg (exRow y)] (.str (exText y)) ∧ (exText y).length ≤ 2147483648:=by
  intro y hy
  have h2:=wExs_mem hy
  have h3:=len_exText y
  exact ⟨IH y (by omega) (okExs_mem hka hy),by omega⟩
 have hsum:=sum_texts args
 have hlt0:=len_exTexts args
 have hg0:=exTexts_getD 0 args
 have hg1:=exTexts_getD 1 args
 have hmap:=exTexts_map args
 have hty:=len_tysText ty
 have hnm : name.length ≤ 42000000:=by omega
 have hopl : op.length ≤ 42000000:=by omega
 simp only [exText]
 refine at_start hm L.f146.1 L.f146.2 rfl ?_
 refine at_seq hm ?_
 unfold r146_0
 show At pr F H.length (fin _ H.length _) _ _ _ _
 refine at_box hm rfl ?_
 intro H1 hH1 hlen hlt
 rcases hop with ⟨hlv,⟨y,y2,rfl⟩,rfl⟩
 ·
  obtain ⟨hy1,hy2⟩:=hA y List.mem_cons_self
  obtain ⟨hy3,hy4⟩:=hA y2 (by simp)
  have hy0r : (exRows [y,y2])[0]? = some (exRow y):=rfl
  have hy1r : (exRows [y,y2])[1]? = some (exRow y2):=rfl
  have hd1:=fun S => det_Level L.toLibX S op
  by_cases hop : op = [61,62]
  ·subst hop
   have hlv0 : levelF [61,62] = 0:=by decide
   have ht:=qx_at L y 1 hy1 hy2
   have ht2:=qx_at L y2 0 hy3 hy4
   have hl : (atT (bindF y.op,exText y) 1).length ≤ (exText y).length + 2:=len_atT _ _
   have hl2 : (atT (bindF y2.op,exText y2) 0).length ≤ (exText y2).length + 2:=len_atT _ _
   have e : textOf [61,62] name (exTexts [y,y2]) (tysText []) = atT (bindF y.op,exText y) 1 ++ [32,61,62,32] ++ atT (bindF y2.op,exText y2) 0:=by
    show atT ((exTexts [y,y2]).getD 0 nulT) 1 ++ [32] ++ [61,62] ++ [32] ++ atT ((exTexts [y,y2]).getD 1 nulT) 0 = _
    rw [hg0,hg1]
    simp
   rw [e]
   refine' stH
   exact fin_retF hH1 rfl rfl ⟨_,hR,by simp,rfl⟩
  ·have hle : levelF op ≤ 5:=by
    unfold levelF
    repeat' split
    all_goals omega
   have hl0 : levelF op ≠ 0:=by
    intro h
    unfold levelF at h
    rw [if_neg hop] at h
    revert h
    repeat' split
    all_goals omega
   have n1 : op ≠ [110,117,109]:=by rintro rfl; revert hlv; decide
   have n2 : op ≠ [118,97,114]:=by rintro rfl; revert hlv; decide
   have n3 : op ≠ [102,105,101,108,100]:=by rintro rfl; revert hlv; decide
   have n4 : op ≠ [99,97,108,108]:=by rintro rfl; revert hlv; decide
   have n5 : op ≠ [110,101,119]:=by rintro rfl; revert hlv; decide
   have n6 : op ≠ [108,105,115,116]:=by rintro rfl; revert hlv; decide
   have n7 : op ≠ [105,110,100,101,120]:=by rintro rfl; revert hlv; decide
   have n8 : op ≠ [108,101,110]:=by rintro rfl; revert hlv; decide
   have n9 : op ≠ [114,101,97,100]:=by rintro rfl; revert hlv; decide
   have n10 : op ≠ [110,101,103]:=by rintro rfl; revert hlv; decide
   have n11 : op ≠ [110,111,116]:=by rintro rfl; revert hlv; decide
   have n12 : op ≠ [116,114,117,101]:=by rintro rfl; revert hlv; decide
   have n13 : op ≠ [102,97,108,115,101]:=by rintro rfl; revert hlv; decide
   have n14 : op ≠ [110,117,108,108]:=by rintro rfl; revert hlv; decide
   have n15 : op ≠ [116,104,105,115]:=by rintro rfl; revert hlv; decide
   have hbk : bindF op = levelF op:=by unfold bindF; rw [if_neg (by simp only [n10,n11,or_self,not_false_eq_true]),if_pos hlv]
   have e : textOf op name (exTexts [y,y2]) (tysText []) = atT (bindF y.op,exText y) (if levelF op = 3 then 4 else levelF op) ++ [32] ++ op ++ [32] ++ atT (bindF y2.op,exText y2) (levelF op + 1):=by
    unfold textOf
    simp only [n1,n2,n3,n4,n5,n6,n7,n8,n9,n10,n11,or_self,if_false,hl0]
    rw [if_neg (by omega),hg0,hg1]
    rfl
   rw [e]
   have ht:=qx_at L y (levelF op) hy1 hy2
   have ht4:=qx_at L y 4 hy1 hy2
   have ht2:=qx_at L y2 (levelF op + 1) hy3 hy4
   have hl4 : (atT (bindF y.op,exText y) 4).length ≤ (exText y).length + 2:=len_atT _ _
   have hl : (atT (bindF y.op,exText y) (levelF op)).length ≤ (exText y).length + 2:=len_atT _ _
   have hl2 : (atT (bindF y2.op,exText y2) (levelF op + 1)).length ≤ (exText y2).length + 2:=len_atT _ _
   refine' stH
   all_goals
    refine fin_retF hH1 rfl rfl ⟨_,hR,?_,rfl⟩
    first
     | rw [if_pos (by omega)]
     | rw [if_neg (by omega)]
end Go.Proofs.YtmeakjgbjldkdaaGreat.Ai
namespace Go.Proofs.YtmeakjgbjldkdaaGreat.Ai
open Go
variable {pr : Prims} {F : Nat → Option IFn}
theorem qx_text (L : LibE pr F) (x : Xp) (hok : okEx x) (hw : wEx x ≤ 42000000) (IH : ∀ y,wEx y < wEx x → okEx y → TxOk pr F 146 [.agg (exRow y)] (.str (exText y))) (IHt : ∀ t,wTy t < wEx x → okTy t → TxOk pr F 97 [.agg (tyRow t)] (.str (tyText t))) :
  TxOk pr F 146 [.agg (exRow x)] (.str (exText x)):=by
 obtain ⟨op,name,args,ty,a⟩:=x
 simp only [okEx] at hok
 obtain ⟨hop,hka,hkt⟩:=hok
 simp only [wEx] at hw IH IHt
 unfold okOp at hop
 rcases hop with ⟨h1,h2,h3,-⟩ | ⟨h1,h2,h3,-⟩ | ⟨h1,h2,h3⟩ | h | ⟨h1,h2,-⟩ | h | ⟨h1,h2,h3,-⟩ | ⟨h1,h2,h3,-⟩ | h | h | h
 ·exact qx_leaf1 L hka hkt hw IH IHt ⟨.inl h1,h2,h3⟩
 ·exact qx_leaf1 L hka hkt hw IH IHt ⟨.inr h1,h2,h3⟩
 ·exact qx_leaf2 L hka hkt hw IH IHt ⟨h1,h2,h3⟩
 ·exact qx_len L hka hkt hw IH IHt h
 ·exact qx_new L hka hkt hw IH IHt ⟨h1,h2⟩
 ·exact qx_list L hka hkt hw IH IHt h
 ·exact qx_field L hka hkt hw IH IHt ⟨h1,h2,h3⟩
 ·exact qx_call L hka hkt hw IH IHt ⟨h1,h2,h3⟩
 ·exact qx_index L hka hkt hw IH IHt h
 ·exact qx_neg L hka hkt hw IH IHt h
 ·exact qx_bin L hka hkt hw IH IHt h
theorem qx_type (L : LibE pr F) (t : Ty) (hok : okTy t) (hw : wTy t ≤ 42000000) (IH : ∀ y,wEx y < wTy t → okEx y → TxOk pr F 146 [.agg (exRow y)] (.str (exText y))) (IHt : ∀ u,wTy u < wTy t → okTy u → TxOk pr F 97 [.agg (tyRow u)] (.str (tyText u))) :
  TxOk pr F 97 [.agg (tyRow t)] (.str (tyText t)):=by
 have hm:=L.hm
 refine TxOk.of hm ?_
 intro H rw hH
 obtain ⟨kind,name,null,elem,pred,a⟩:=t
 simp only [okTy] at hok
 obtain ⟨hk,hpl,hke,hkp⟩:=hok
 simp only [wTy] at hw IH IHt
 have hR : Rx rw rw:=Rx.rfl
 have hpr : (exRows pred).length = pred.length:=exRows_len pred
 have hnm : name.length ≤ 42000000:=by omega
 refine at_start hm L.f97.1 L.f97.2 rfl ?_
 refine at_seq hm ?_
 unfold r97_0
 show At pr F H.length (fin _ H.length _) _ _ _ _
 refine at_box hm rfl ?_
 intro H1 hH1 hlen hlt
 obtain ⟨bt,hbt,hbe⟩ : ∃ bt : Str,bt.length ≤ 1400000000 ∧ bt = baseT (.mk kind name null elem pred a):=⟨_,by have:=len_baseT (.mk kind name null elem pred a); simp only [wTy] at this; omega,rfl⟩
 have hel : kind = 4 → ∃ u,elem = [u] ∧ TxOk pr F 97 [.agg (tyRow u)] (.str (tyText u)) ∧ (tyText u).length ≤ 1400000000:=by
  intro h4
  rcases hk with ⟨h,-⟩ | ⟨h,-⟩ | ⟨h,-⟩ | ⟨-,-,u,rfl⟩
  ·omega
  ·omega
  ·omega
  ·have hlu:=len_tyText u
   simp only [wTys] at hw IHt
   exact ⟨u,rfl,IHt u (by omega) hke.1,by omega⟩
 have hk4 : kind = 1 ∨ kind = 2 ∨ kind = 3 ∨ kind = 4:=by
  rcases hk with ⟨h,-⟩ | ⟨h,-⟩ | ⟨h,-⟩ | ⟨h,-⟩
  ·exact .inl h
  ·exact .inr (.inl h)
  ·exact .inr (.inr (.inl h))
  ·exact .inr (.inr (.inr h))
 have hE : ∀ s,s = baseT (.mk kind name null elem pred a) ++ (if null then [63] else []) ++ predText pred → s = tyText (.mk kind name null elem pred a):=by
  intro s hs
  rw [hs]
  simp only [tyText,baseT]
 have hB:=len_baseT (.mk kind name null elem pred a)
 simp only [wTy] at hB
 have hS : (baseT (.mk kind name null elem pred a) ++ (if null then [63] else [])).length ≤ 1400000000:=by
  rw [List.length_append]
  split <;> simp only [List.length_cons,List.length_nil] <;> omega
 rcases hk4 with rfl | rfl | rfl | rfl
 rotate_left 3
 ·obtain ⟨u,rfl,hu,hul⟩:=hel rfl
  have htr : (tyRows [u])[0]? = some (tyRow u):=rfl
  have hlt1 : (tyRows [u]).length = 1:=rfl
  refine' stH
  all_goals
   have hb0 : null = true ∨ null = false:=by cases null <;> simp
   obtain ⟨s0,hs0,hs1⟩ : ∃ s0 : Str,s0 = baseT (.mk 4 name null [u] pred a) ++ (if null then [63] else []) ∧ s0.length ≤ 1400000000:=⟨_,rfl,hS⟩
   refine at_loop hm (fun mm e S' => ∃ (q : Nat) (s : Str) (J : List Blk) (rw3 : List Nat),S' = ⟨hp H1 H.length (.cells (tyRow (.mk 4 name null [u] pred a))) J,rw3⟩ ∧ q ≤ pred.length ∧ s = s0 ++ predText (pred.take q) ∧ Rx rw rw3 ∧ mm = pred.length - q ∧ e = [(1,.ptr H.length 0),(3,.str s),(4,.int .i64 q)]) ?_ (m:=pred.length) ⟨0,_,_,_,rfl,by omega,?_,hR,rfl,rfl⟩
   rotate_left 1
   ·rw [hs0]
    simp only [List.take_zero,predText,List.append_nil,baseT,tysText,hq,if_true,Bool.false_eq_true,if_false,Int.reduceEq]
   clear hR
   rintro mm e S' ⟨q,s,J,rw3,rfl,hq0,rfl,hR,rfl,rfl⟩
   by_cases hq1 : q < pred.length
   ·obtain ⟨x,hx⟩ : ∃ x,pred[q]? = some x:=⟨_,List.getElem?_eq_getElem hq1⟩
    have hxr:=exRows_get hx
    have hl5 : lst 5 (exRows pred) = .list 5 .dead (exRows pred):=lst_of_lt (i:=q) (by omega)
    have hmem:=List.mem_of_getElem? hx
    have hwx:=wExs_mem hmem
    have hxl:=len_exText x
    have hX:=IH x (by omega) (okExs_mem hkp hmem)
    have hq00 : q = 0:=by omega
    subst hq00
    have e0 : predText (List.take 0 pred) = []:=by simp [predText]
    rw [e0,List.append_nil]
    refine' stH
    rw [hl5]
    refine' stH
    refine ⟨pred.length - 1,by omega,1,_,_,rwt,rfl,by omega,?_,hR,rfl,rfl⟩
    rw [show (1 : Nat) = 0 + 1 from rfl,take_snoc hx]
    simp only [List.take_zero,List.nil_append,predText,List.append_nil,List.append_assoc]
   ·refine' stH
    have e1 : List.take q pred = pred:=by rw [show q = pred.length by omega,List.take_length]
    rw [e1]
    exact fin_retF hH1 rfl rfl ⟨_,hR,by rw [hE (s0 ++ predText pred) (by rw [hs0])],rfl⟩
 all_goals
  clear hel
  refine' stH
  all_goals
   have hb0 : null = true ∨ null = false:=by cases null <;> simp
   obtain ⟨s0,hs0,hs1⟩ : ∃ s0 : Str,s0 = baseT (.mk _ name null elem pred a) ++ (if null then [63] else []) ∧ s0.length ≤ 1400000000:=⟨_,rfl,hS⟩
   refine at_loop hm (fun mm e S' => ∃ (q : Nat) (s : Str) (J : List Blk) (rw3 : List Nat),S' = ⟨hp H1 H.length (.cells (tyRow (.mk _ name null elem pred a))) J,rw3⟩ ∧ q ≤ pred.length ∧ s = s0 ++ predText (pred.take q) ∧ Rx rw rw3 ∧ mm = pred.length - q ∧ e = [(1,.ptr H.length 0),(3,.str s),(4,.int .i64 q)]) ?_ (m:=pred.length) ⟨0,_,_,_,rfl,by omega,?_,hR,rfl,rfl⟩
   rotate_left 1
   ·rw [hs0]
    simp only [List.take_zero,predText,List.append_nil,baseT,hq,if_true,Bool.false_eq_true,if_false,Int.reduceEq]
   clear hR
   rintro mm e S' ⟨q,s,J,rw3,rfl,hq0,rfl,hR,rfl,rfl⟩
   by_cases hq1 : q < pred.length
   ·obtain ⟨x,hx⟩ : ∃ x,pred[q]? = some x:=⟨_,List.getElem?_eq_getElem hq1⟩
    have hxr:=exRows_get hx
    have hl5 : lst 5 (exRows pred) = .list 5 .dead (exRows pred):=lst_of_lt (i:=q) (by omega)
    have hmem:=List.mem_of_getElem? hx
    have hwx:=wExs_mem hmem
    have hxl:=len_exText x
    have hX:=IH x (by omega) (okExs_mem hkp hmem)
    have hq00 : q = 0:=by omega
    subst hq00
    have e0 : predText (List.take 0 pred) = []:=by simp [predText]
    rw [e0,List.append_nil]
    refine' stH
    rw [hl5]
    refine' stH
    refine ⟨pred.length - 1,by omega,1,_,_,rwt,rfl,by omega,?_,hR,rfl,rfl⟩
    rw [show (1 : Nat) = 0 + 1 from rfl,take_snoc hx]
    simp only [List.take_zero,List.nil_append,predText,List.append_nil,List.append_assoc]
   ·refine' stH
    have e1 : List.take q pred = pred:=by rw [show q = pred.length by omega,List.take_length]
    rw [e1]
    exact fin_retF hH1 rfl rfl ⟨_,hR,by rw [hE (s0 ++ predText pred) (by rw [hs0])],rfl⟩
theorem qx_all (L : LibE pr F) : ∀ k : Nat,(∀ x,wEx x < k → wEx x ≤ 42000000 → okEx x → TxOk pr F 146 [.agg (exRow x)] (.str (exText x))) ∧ (∀ t,wTy t < k → wTy t ≤ 42000000 → okTy t → TxOk pr F 97 [.agg (tyRow t)] (.str (tyText t))):=by
 intro k
 induction k with
 | zero => exact ⟨fun x h => by omega,fun x h => by omega⟩
 | succ k ih =>
  obtain ⟨h1,h2⟩:=ih
  exact ⟨fun x hk hw ho => qx_text L x ho hw (fun y hy hoy => h1 y (by omega) (by omega) hoy) (fun t ht hot => h2 t (by omega) (by omega) hot),
   fun x hk hw ho => qx_type L x ho hw (fun y hy hoy => h1 y (by omega) (by omega) hoy) (fun t ht hot => h2 t (by omega) (by omega) hot)⟩
theorem qx_ty (L : LibE pr F) {t : Ty} (hw : wTy t ≤ 42000000) (ho : okTy t) : TxOk pr F 97 [.agg (tyRow t)] (.str (tyText t)):=(qx_all L (wTy t + 1)).2 t (by omega) hw ho
end Go.Proofs.YtmeakjgbjldkdaaGreat.Ai
