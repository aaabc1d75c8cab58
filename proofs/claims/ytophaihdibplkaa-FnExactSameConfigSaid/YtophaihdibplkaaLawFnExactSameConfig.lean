/- FnExactSameConfig: for every input the law returns true, and its arguments read behind the call as before. No conditions. -/
import Derived.Test.YtophaihdibplkaaRows
import Derived.Test.YtophaihdibplkaaOpensFnExactSameConfig
import Derived.Test.YtophaihdibplkaaPureFnExactSameConfig
import Derived.WalkKit
import Derived.ProofKit
import Derived.OpenShut
import Derived.ShutString
import Derived.ChangeOld
import Derived.Below
import Derived.SizedLaws
import Derived.Carry
namespace Go.Proofs.Ytophaihdibplkaa.fnExactSameConfig
open Go.ChangeShapes Go.WideShapes Go.ChangeAt Go.RowKit Go.Proofs.YtophaihdibplkaaW.PrintWords
open Go.ChangeMaps (open_string shut_string)
theorem own:ownKnob Try.prog.godebug=none:=by kernel_rfl
theorem laidOut:laidOutB Try.prog=true:=by kernel_rfl
set_option maxRecDepth 100000 in
theorem lifted (os:Os) (started:os.Started) (H:Type) (enc:TypeId × Value→H) :
 ReturnsInHanded {} Try.checked os 12 .any (Rows.fnExactSameConfigSpec.pre6 enc Try.prog Try.f12 Rows.fnExactSameConfigRow.domain false) (Rows.fnExactSameConfigSpec.post enc Try.prog Try.f12 false true false false):=by
 refine returnsInHanded_of_change_sized (C:=Try.checked) own started (by kernel_rfl) Try.func12
  (ChangeSpec.witness6 (enc:=enc) (C:=Try.checked) false ⟨#[],#[.agg #[.bool false,.bool false,.slice none 0 0,.slice none 0 0,.slice none 0 0,.slice none 0 0,.slice none 0 0,.bool false,.bool false],.agg #[.bool false,.bool false,.slice none 0 0,.slice none 0 0,.slice none 0 0,.slice none 0 0,.slice none 0 0,.bool false,.bool false]],[]⟩ 8 (by kernel_rfl) (by kernel_rfl) (by kernel_rfl) (by kernel_rfl)) ?_
 intro W base args ds gs before hval0 hW _ _ _
 have hval:∀ (j:Nat) t v,Try.f12.params[j]? = some t→args[j]? = some v→Value.okWide Try.prog W .any base t v:=hval0
 have hW':=hW
 obtain ⟨p,q,hA0,hV,rfl,hfz,hnd⟩:=hW
 have hA:DataW.TrodAll enc Try.prog W 0 (fun _=>true) true Try.f12.params.toList args.toList ds p:=hA0
 rw [Try.params12] at hA hval
 obtain ⟨v0,vs0,d0,ds0,p0,q0,hargs,rfl,rfl,h0,r0⟩:=trodAll_cons hA
 obtain ⟨v1,vs1,d1,ds1,p1,q1,rfl,rfl,rfl,h1,r1⟩:=trodAll_cons r0
 obtain ⟨rfl,rfl,rfl⟩:=trodAll_nil r1
 obtain rfl:args=#[v0,v1]:=by cases args;simp_all
 obtain ⟨rfl,rfl⟩:=trodVars_none hV
 have k0:=h0
 have lt0:∀ x∈p0,x.block<W.heap.size:=by obtain ⟨m,hm⟩:=k0;exact DataW.trod_lt m _ _ _ hm
 obtain ⟨cs0,x0,rfl,K0,gd0⟩:=Open.open_struct (d:=PFnExactSameConfig.k73) (g:=PFnExactSameConfig.G73) Try.underlying73 PFnExactSameConfig.opens73 (hval 0 73 v0 rfl rfl) h0
 obtain ⟨A0_2,c0_2,A0_3,c0_3,A0_4,c0_4,A0_5,c0_5,A0_6,c0_6,rfl,l0_2,g0_2,l0_3,g0_3,l0_4,g0_4,l0_5,g0_5,l0_6,g0_6⟩:=PFnExactSameConfig.k73_open K0
 have k1:=h1
 have lt1:∀ x∈p1,x.block<W.heap.size:=by obtain ⟨m,hm⟩:=k1;exact DataW.trod_lt m _ _ _ hm
 obtain ⟨cs1,x1,rfl,K1,gd1⟩:=Open.open_struct (d:=PFnExactSameConfig.k73) (g:=PFnExactSameConfig.G73) Try.underlying73 PFnExactSameConfig.opens73 (hval 1 73 v1 rfl rfl) h1
 obtain ⟨A1_2,c1_2,A1_3,c1_3,A1_4,c1_4,A1_5,c1_5,A1_6,c1_6,rfl,l1_2,g1_2,l1_3,g1_3,l1_4,g1_4,l1_5,g1_5,l1_6,g1_6⟩:=PFnExactSameConfig.k73_open K1
 clear hA0 hval0
 obtain ⟨k,hk⟩:=Pure.FnExactSameConfig x0 x1 gd0 gd1
 refine (PFnExactSameConfig.laws_FnExactSameConfig.calls k x0.f0 x0.f1 A0_2 c0_2 x0.f2 A0_3 c0_3 x0.f3 A0_4 c0_4 x0.f4 A0_5 c0_5 x0.f5 A0_6 c0_6 x0.f6 x0.f7 x0.f8 x1.f0 x1.f1 A1_2 c1_2 x1.f2 A1_3 c1_3 x1.f3 A1_4 c1_4 x1.f4 A1_5 c1_5 x1.f5 A1_6 c1_6 x1.f6 x1.f7 x1.f8 true W g0_2 l0_2 g0_3 l0_3 g0_4 l0_4 g0_5 l0_5 g0_6 l0_6 g1_2 l1_2 g1_3 l1_3 g1_4 l1_4 g1_5 l1_5 g1_6 l1_6 hk ⟨rfl⟩).mono fun e W' ⟨he,bel⟩=>?_
 subst he
 exact ⟨_,rfl,_,_,_,[],_,[],hW',trodAll_mk1 (shut_bool Try.underlying4 _),(trodAll_cons_mk (Below.trod laidOut (by kernel_rfl) (of_decide_eq_true (by kernel_rfl)) k0 bel lt0) (trodAll_cons_mk (Below.trod laidOut (by kernel_rfl) (of_decide_eq_true (by kernel_rfl)) k1 bel lt1) trodAll_mk0)),rfl,bel.frame _,fun h=>by cases h⟩
theorem over:Rows.fnExactSameConfigRow.holds Try.pinned (OpenSpec.ofChange Rows.fnExactSameConfigSpec) :=
 OpenClaim.holds_of_wide 12 Try.f12 rfl rfl rfl rfl rfl rfl rfl ⟨rfl,rfl,rfl,rfl,rfl⟩ rfl rfl rfl rfl rfl (by kernel_rfl) Try.func12 (by kernel_rfl)
  (of_decide_eq_true (by kernel_rfl)) (by unfold Func.isWrapper;first|(rw [if_pos (by decide +kernel)];kernel_rfl)|(rw [if_neg (by decide +kernel)];exact ⟨rfl,rfl⟩))
  (fun os started H enc _=>lifted os started H enc)
theorem proved:Rows.FnExactSameConfigSaid:=over
#print axioms proved
end Go.Proofs.Ytophaihdibplkaa.fnExactSameConfig
namespace Go.Proofs.Ytophaihdibplkaa
/-- The row, under a short name, for the claim. -/
theorem fnExactSameConfig_holds:Rows.FnExactSameConfigSaid:=fnExactSameConfig.proved
end Go.Proofs.Ytophaihdibplkaa
