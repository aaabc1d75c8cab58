/- FnExactSerialize: for every input the law returns true, and its arguments read behind the call as before. No conditions. -/
import Derived.Test.YtlpncjeahdfolaaGreatDoorRows
import Derived.Test.YtlpncjeahdfolaaGreatDoorOpensFnExactSerialize
import Derived.Test.YtlpncjeahdfolaaGreatDoorPureFnExactSerialize
import Derived.WalkKit
import Derived.ProofKit
import Derived.OpenShut
import Derived.ShutString
import Derived.ChangeOld
import Derived.Below
import Derived.SizedLaws
import Derived.Lay
import Derived.MakeChecks
import Derived.SevenTiedAt
import Derived.Handed
import Derived.Test.YtlpncjeahdfolaaGreatDoorTie
import Derived.Test.YtlpncjeahdfolaaGreatDoorCards
import Derived.Carry
namespace Go.Proofs.YtlpncjeahdfolaaGreatDoor.fnExactSerialize
open Go.ChangeShapes Go.WideShapes Go.ChangeAt Go.RowKit Go.Proofs.YtlpncjeahdfolaaGreatDoorW.PrintWords
open Go.ChangeMaps (open_string shut_string)
theorem own:ownKnob Tryz.prog.godebug=none:=by kernel_rfl
theorem laidOut:laidOutB Tryz.prog=true:=by kernel_rfl
set_option maxRecDepth 100000 in
theorem lifted (os:Os) (started:os.Started) (H:Type) (enc:TypeId × Value→H) :
 ReturnsInHanded {} Tryz.checked os 3 .any (fun w args=>(Rows.fnExactSerializeSpec.pre enc Tryz.prog Tryz.f3 Rows.fnExactSerializeRow.domain false w args∧laidMetH Tryz.prog Rows.fnExactSerializeRow.laid w)∧sizedMet enc Tryz.prog Tryz.f3 (OpenSpec.ofChange Rows.fnExactSerializeSpec) false w args) (Rows.fnExactSerializeSpec.post enc Tryz.prog Tryz.f3 false true false false):=by
 refine returnsInHanded_of_change_and (C:=Tryz.checked) (X:=fun w _=>laidMetH Tryz.prog Rows.fnExactSerializeRow.laid w) (fun _ _ _ hh h=>h.of_heap hh) own started (by kernel_rfl) Tryz.func3
  (ChangeSpec.witness_shaped (enc:=enc) (C:=Tryz.checked) (os:=os) (X:=fun w _=>laidMetH Tryz.prog Rows.fnExactSerializeRow.laid w) false (World.laidAll Tryz.prog os Rows.fnExactSerializeRow.laid) #[.slice none 0 0] 8 (World.laidAll_os _ _ _)
   (World.shaped_of_ZipB (by kernel_rfl) (by kernel_rfl)) (by kernel_rfl) (by kernel_rfl) (by kernel_rfl)
   (by rw [MakeChecks.laidMetH_plain _ _ _ (by kernel_rfl)];exact laidMet_laidAll _ (by kernel_rfl) (by kernel_rfl))) ?_
 intro W base args ds gs before hval0 hW _ _ _ _
 have hval:∀ (j:Nat) t v,Tryz.f3.params[j]? = some t→args[j]? = some v→Value.okWide Tryz.prog W .any base t v:=hval0
 have hW':=hW
 obtain ⟨p,q,hA0,hV,rfl,hfz,hnd⟩:=hW
 have hA:DataW.TrodAll enc Tryz.prog W 0 (fun _=>true) true Tryz.f3.params.toList args.toList ds p:=hA0
 rw [Tryz.params3] at hA hval
 obtain ⟨v0,vs0,d0,ds0,p0,q0,hargs,rfl,rfl,h0,r0⟩:=trodAll_cons hA
 obtain ⟨rfl,rfl,rfl⟩:=trodAll_nil r0
 obtain rfl:args=#[v0]:=by cases args;simp_all
 obtain ⟨rfl,rfl⟩:=trodVars_none hV
 have k0:=h0
 have lt0:∀ x∈p0,x.block<W.heap.size:=by obtain ⟨m,hm⟩:=k0;exact DataW.trod_lt m _ _ _ hm
 obtain ⟨A0,c0,x0,rfl,hr0,hc0,gd0⟩:=Open.open_slice (d:=PFnExactSerialize.k33) (g:=PFnExactSerialize.G33) Tryz.underlying22 (fun n=>Open.opens_slice Tryz.underlying22 (by kernel_rfl) (fun m _=>PFnExactSerialize.opens33 m)) (hval 0 22 v0 rfl rfl) h0
 clear hA0 hval0
 obtain ⟨k,hk⟩:=Pure.FnExactSerialize x0 gd0
 refine (PFnExactSerialize.laws_FnExactSerialize.calls k A0 c0 x0 true W hr0 hc0 hk ⟨rfl⟩).mono fun e W' ⟨he,bel⟩=>?_
 subst he
 exact ⟨_,rfl,_,_,_,[],_,[],hW',trodAll_mk1 (shut_bool Tryz.underlying4 _),(trodAll_cons_mk (Below.trod laidOut (by kernel_rfl) (of_decide_eq_true (by kernel_rfl)) k0 bel lt0) trodAll_mk0),rfl,bel.frame _,fun h=>by cases h⟩
theorem over:Rows.fnExactSerializeRow.holds Tryz.pinned (OpenSpec.ofChange Rows.fnExactSerializeSpec) :=
 OpenClaim.holds_of_wide 3 Tryz.f3 rfl rfl rfl rfl rfl rfl rfl ⟨rfl,rfl,rfl,rfl,rfl⟩ rfl rfl rfl rfl rfl (by kernel_rfl) Tryz.func3 (by kernel_rfl)
  (of_decide_eq_true (by kernel_rfl)) (by unfold Func.isWrapper;first|(rw [if_pos (by decide +kernel)];kernel_rfl)|(rw [if_neg (by decide +kernel)];exact ⟨rfl,rfl⟩))
  (fun os started H enc _=>lifted os started H enc)
theorem proved:Rows.FnExactSerializeCardSaid :=
 Claim7.holds_tied_plain_at .later [] [.data,.pinned] true (true, "9d49cea848e94848b7988e89daadb3ee71f135c947543285bf563ed3f2f5df5b") true over (fun _ h => by cases h) (by kernel_rfl) (fun _ h => by cases h) fnExactSerialize_row_tie rfl ⟨rfl, rfl⟩ (by kernel_rfl) rfl
  (fun f fn hf hfn=>by
   obtain rfl:f=3:=Option.some.inj ((show Tryz.prog.funcNamed "loop.example/g00788/laws.FnExactSerialize" = some 3 by kernel_rfl).symm.trans hf) |>.symm
   obtain rfl:fn=Tryz.f3:=(Option.some.inj (Tryz.func3.symm.trans hfn)).symm
   exact ⟨by kernel_rfl,fun j t ht=>by
    rw [Tryz.params3] at ht
    have hm:t∈[22]:=by simpa using Array.mem_of_getElem? ht
    have hall:([22].all fun u=>!Tryz.prog.wantsStandIn u)=true:=by kernel_rfl
    exact (show Tryz.prog.wantsStandIn t=false by simpa using List.all_eq_true.1 hall t hm)⟩)
  (by kernel_rfl)
#print axioms proved
end Go.Proofs.YtlpncjeahdfolaaGreatDoor.fnExactSerialize
namespace Go.Proofs.YtlpncjeahdfolaaGreatDoor
/-- The row, under a short name, for the claim. -/
theorem fnExactSerialize_holds:Rows.FnExactSerializeCardSaid:=fnExactSerialize.proved
end Go.Proofs.YtlpncjeahdfolaaGreatDoor
