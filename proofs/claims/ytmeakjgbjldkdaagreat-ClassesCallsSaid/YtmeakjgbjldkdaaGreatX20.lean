/- Each signature leads to the method of the class that the chain, or the interfaces, say; each class has just these: for every two texts the statement's function returns true. No condition. -/
import Derived.Test.YtmeakjgbjldkdaaGreatX19
import Derived.Test.YtmeakjgbjldkdaaGreatRows
import Derived.ProofKit
set_option maxRecDepth 100000
set_option maxHeartbeats 16000000
namespace Go.Proofs.YtmeakjgbjldkdaaGreat
open Go.ChangeShapes Go.WideShapes Go.ChangeAt Go.RowKit
open Go.ChangeMaps (open_string shut_string)
theorem Tryz.own : ownKnob Tryz.prog.godebug = none:=by kernel_rfl
theorem calls_walk (s s2 : ByteArray) (w : World) : Calls Tryz.prog 7 #[.string s,.string s2] w fun e w' => e = .returned (.bool true) ∧ Below w.heap.size w w':=by
 obtain ⟨⟨l⟩⟩:=s
 obtain ⟨⟨l2⟩⟩:=s2
 obtain ⟨p,ok,hrd⟩:=Ai.libP.rd l
 exact Ai.to_rowD Ai.fa4_chk (vs:=[.str l,.str l2]) (us:=[.string ⟨⟨l⟩⟩,.string ⟨⟨l2⟩⟩]) rfl (Ai.wp_calls Ai.libP hrd Ai.libP.awake [] []) (by simp only [Ai.RepT,Ai.Rep]; exact ⟨_,_,rfl,rfl,_,_,rfl,rfl,rfl⟩) w
theorem calls_lifted (os : Os) (started : os.Started) (H : Type) (enc : TypeId × Value → H) :
  ReturnsInHanded {} Tryz.checked os 7 .any (Rows.classesCallsSpec.pre6 enc Tryz.prog Tryz.f7 Rows.classesCallsRow.domain false) (Rows.classesCallsSpec.post enc Tryz.prog Tryz.f7 false true false false):=by
 refine returnsInHanded_of_change (C:=Tryz.checked) Tryz.own started (by kernel_rfl) Tryz.func7
  (ChangeSpec.witness6 (enc:=enc) (C:=Tryz.checked) false ⟨#[],#[.string ⟨#[]⟩,.string ⟨#[]⟩],[]⟩ 8 (by kernel_rfl) (by kernel_rfl) (by kernel_rfl) (by kernel_rfl)) ?_
 intro W base args ds gs before hval0 hW hcnd _
 have hval : ∀ (j : Nat) t v,Tryz.f7.params[j]? = some t → args[j]? = some v → Value.okWide Tryz.prog W .any base t v:=hval0
 have hW':=hW
 obtain ⟨p,q,hA0,hV,rfl,hfz,hnd⟩:=hW
 have hA : DataW.TrodAll enc Tryz.prog W 0 (fun _ => true) true Tryz.f7.params.toList args.toList ds p:=hA0
 rw [Tryz.params7] at hA hval
 obtain ⟨v0,v1,d0,d1,p0,p1,rfl,rfl,rfl,h0,h1⟩:=trodAll_two hA
 obtain ⟨rfl,rfl⟩:=trodVars_none hV
 obtain ⟨s,rfl,rfl,rfl,hs⟩:=open_string Tryz.underlying9 (hval 0 9 v0 rfl rfl) h0
 obtain ⟨s2,rfl,rfl,rfl,hs2⟩:=open_string Tryz.underlying9 (hval 1 9 v1 rfl rfl) h1
 clear hA0 hval0
 simp only [List.append_nil] at hW'
 refine (calls_walk s s2 W).mono fun e W' ⟨he,hb⟩ => ?_
 subst he
 exact ⟨_,rfl,_,_,_,[],[],[],hW',trodAll_mk1 (shut_bool Tryz.underlying4 true),trodAll_mk2 (shut_string Tryz.underlying9 hs) (shut_string Tryz.underlying9 hs2),rfl,hb.frame _,fun h => by cases h⟩
theorem classesCalls_holds : Rows.ClassesCallsSaid:=
 OpenClaim.holds_of_wide 7 Tryz.f7 rfl rfl rfl rfl rfl rfl rfl ⟨rfl,rfl,rfl,rfl,rfl⟩ rfl rfl rfl rfl rfl (by kernel_rfl) Tryz.func7 (by kernel_rfl)
  (of_decide_eq_true (by kernel_rfl)) (by unfold Func.isWrapper; first | (rw [if_pos (by decide +kernel)]; kernel_rfl) | (rw [if_neg (by decide +kernel)]; exact ⟨rfl,rfl⟩))
  (fun os started H enc _ => calls_lifted os started H enc)
#print axioms classesCalls_holds
end Go.Proofs.YtmeakjgbjldkdaaGreat
