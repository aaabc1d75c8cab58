/- FnExactStartTag: for every input the law returns true, and its arguments read behind the call as before. No conditions. -/
import Derived.Test.YtpoaaomcpleebaaGreatDoorRows
import Derived.Test.YtpoaaomcpleebaaGreatDoorOpensFnExactStartTag
import Derived.Test.YtpoaaomcpleebaaGreatDoorPureFnExactStartTag
import Derived.WalkKit
import Derived.ProofKit
import Derived.OpenShut
import Derived.ShutString
import Derived.ChangeOld
import Derived.Below
import Derived.SizedLaws
import Derived.Lay
import Derived.MakeChecks
import Derived.SevenTiedAt
import Derived.Handed
import Derived.Test.YtpoaaomcpleebaaGreatDoorTie
import Derived.Test.YtpoaaomcpleebaaGreatDoorCards
import Derived.Carry
namespace Go.Proofs.YtpoaaomcpleebaaGreatDoor.fnExactStartTag
open Go.ChangeShapes Go.WideShapes Go.ChangeAt Go.RowKit Go.Proofs.YtpoaaomcpleebaaGreatDoorW.PrintWords
open Go.ChangeMaps (open_string shut_string)
theorem own:ownKnob Tryz.prog.godebug=none:=by kernel_rfl
theorem laidOut:laidOutB Tryz.prog=true:=by kernel_rfl
set_option maxRecDepth 100000 in
theorem lifted (os:Os) (started:os.Started) (H:Type) (enc:TypeId × Value→H) :
 ReturnsInHanded {} Tryz.checked os 3 .any (fun w args=>(Rows.fnExactStartTagSpec.pre enc Tryz.prog Tryz.f3 Rows.fnExactStartTagRow.domain false w args∧laidMetH Tryz.prog Rows.fnExactStartTagRow.laid w)∧sizedMet enc Tryz.prog Tryz.f3 (OpenSpec.ofChange Rows.fnExactStartTagSpec) false w args) (Rows.fnExactStartTagSpec.post enc Tryz.prog Tryz.f3 false true false false):=by
 refine returnsInHanded_of_change_and (C:=Tryz.checked) (X:=fun w _=>laidMetH Tryz.prog Rows.fnExactStartTagRow.laid w) (fun _ _ _ hh h=>h.of_heap hh) own started (by kernel_rfl) Tryz.func3
  (ChangeSpec.witness_shaped (enc:=enc) (C:=Tryz.checked) (os:=os) (X:=fun w _=>laidMetH Tryz.prog Rows.fnExactStartTagRow.laid w) false (World.laidAll Tryz.prog os Rows.fnExactStartTagRow.laid) #[.agg #[.int .i64 0,.int .i64 0,.string ByteArray.empty,.string ByteArray.empty,.slice none 0 0,.slice none 0 0]] 8 (World.laidAll_os _ _ _)
   (World.shaped_of_ZipB (by kernel_rfl) (by kernel_rfl)) (by kernel_rfl) (by kernel_rfl) (by kernel_rfl)
   (by rw [MakeChecks.laidMetH_plain _ _ _ (by kernel_rfl)];exact laidMet_laidAll _ (by kernel_rfl) (by kernel_rfl))) ?_
 intro W base args ds gs before hval0 hW _ _ _ _
 have hval:∀ (j:Nat) t v,Tryz.f3.params[j]? = some t→args[j]? = some v→Value.okWide Tryz.prog W .any base t v:=hval0
 have hW':=hW
 obtain ⟨p,q,hA0,hV,rfl,hfz,hnd⟩:=hW
 have hA:DataW.TrodAll enc Tryz.prog W 0 (fun _=>true) true Tryz.f3.params.toList args.toList ds p:=hA0
 rw [Tryz.params3] at hA hval
 obtain ⟨v0,vs0,d0,ds0,p0,q0,hargs,rfl,rfl,h0,r0⟩:=trodAll_cons hA
 obtain ⟨rfl,rfl,rfl⟩:=trodAll_nil r0
 obtain rfl:args=#[v0]:=by cases args;simp_all
 obtain ⟨rfl,rfl⟩:=trodVars_none hV
 have k0:=h0
 have lt0:∀ x∈p0,x.block<W.heap.size:=by obtain ⟨m,hm⟩:=k0;exact DataW.trod_lt m _ _ _ hm
 obtain ⟨cs0,x0,rfl,K0,gd0⟩:=Open.open_struct (d:=PFnExactStartTag.k25) (g:=PFnExactStartTag.G25) Tryz.underlying25 PFnExactStartTag.opens25 (hval 0 25 v0 rfl rfl) h0
 obtain ⟨A0_4,c0_4,A0_5,c0_5,rfl,l0_4,g0_4,l0_5,g0_5⟩:=PFnExactStartTag.k25_open K0
 clear hA0 hval0
 obtain ⟨k,hk⟩:=Pure.FnExactStartTag x0 gd0
 refine (PFnExactStartTag.laws_FnExactStartTag.calls k x0.f0 x0.f1 x0.f2 x0.f3 A0_4 c0_4 x0.f4 A0_5 c0_5 x0.f5 true W g0_4 l0_4 g0_5 l0_5 hk ⟨rfl⟩).mono fun e W' ⟨he,bel⟩=>?_
 subst he
 exact ⟨_,rfl,_,_,_,[],_,[],hW',trodAll_mk1 (shut_bool Tryz.underlying4 _),(trodAll_cons_mk (Below.trod laidOut (by kernel_rfl) (of_decide_eq_true (by kernel_rfl)) k0 bel lt0) trodAll_mk0),rfl,bel.frame _,fun h=>by cases h⟩
theorem over:Rows.fnExactStartTagRow.holds Tryz.pinned (OpenSpec.ofChange Rows.fnExactStartTagSpec) :=
 OpenClaim.holds_of_wide 3 Tryz.f3 rfl rfl rfl rfl rfl rfl rfl ⟨rfl,rfl,rfl,rfl,rfl⟩ rfl rfl rfl rfl rfl (by kernel_rfl) Tryz.func3 (by kernel_rfl)
  (of_decide_eq_true (by kernel_rfl)) (by unfold Func.isWrapper;first|(rw [if_pos (by decide +kernel)];kernel_rfl)|(rw [if_neg (by decide +kernel)];exact ⟨rfl,rfl⟩))
  (fun os started H enc _=>lifted os started H enc)
theorem proved:Rows.FnExactStartTagCardSaid :=
 Claim7.holds_tied_plain_at .later [] [.data,.pinned] true (true, "a34b321f17cad6d11371fe973a0635d3bc117f03b07327bc1a2082f9db058d7b") true over (fun _ h => by cases h) (by kernel_rfl) (fun _ h => by cases h) fnExactStartTag_row_tie rfl ⟨rfl, rfl⟩ (by kernel_rfl) rfl
  (fun f fn hf hfn=>by
   obtain rfl:f=3:=Option.some.inj ((show Tryz.prog.funcNamed "loop.example/g00788/laws.FnExactStartTag" = some 3 by kernel_rfl).symm.trans hf) |>.symm
   obtain rfl:fn=Tryz.f3:=(Option.some.inj (Tryz.func3.symm.trans hfn)).symm
   exact ⟨by kernel_rfl,fun j t ht=>by
    rw [Tryz.params3] at ht
    have hm:t∈[25]:=by simpa using Array.mem_of_getElem? ht
    have hall:([25].all fun u=>!Tryz.prog.wantsStandIn u)=true:=by kernel_rfl
    exact (show Tryz.prog.wantsStandIn t=false by simpa using List.all_eq_true.1 hall t hm)⟩)
  (by kernel_rfl)
#print axioms proved
end Go.Proofs.YtpoaaomcpleebaaGreatDoor.fnExactStartTag
namespace Go.Proofs.YtpoaaomcpleebaaGreatDoor
/-- The row, under a short name, for the claim. -/
theorem fnExactStartTag_holds:Rows.FnExactStartTagCardSaid:=fnExactStartTag.proved
end Go.Proofs.YtpoaaomcpleebaaGreatDoor
