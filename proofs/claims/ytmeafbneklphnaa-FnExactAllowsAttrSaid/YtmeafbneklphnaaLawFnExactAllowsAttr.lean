/- FnExactAllowsAttr: for every input the law returns true, and its arguments read behind the call as before. No conditions. -/
import Derived.Test.YtmeafbneklphnaaRows
import Derived.Test.YtmeafbneklphnaaOpensFnExactAllowsAttr
import Derived.Test.YtmeafbneklphnaaPureFnExactAllowsAttr
import Derived.WalkKit
import Derived.ProofKit
import Derived.OpenShut
import Derived.ShutString
import Derived.ChangeOld
import Derived.Below
import Derived.SizedLaws
import Derived.Carry
namespace Go.Proofs.Ytmeafbneklphnaa.fnExactAllowsAttr
open Go.ChangeShapes Go.WideShapes Go.ChangeAt Go.RowKit Go.Proofs.YtmeafbneklphnaaW.PrintWords
open Go.ChangeMaps (open_string shut_string)
theorem own:ownKnob Try.prog.godebug=none:=by kernel_rfl
theorem laidOut:laidOutB Try.prog=true:=by kernel_rfl
set_option maxRecDepth 100000 in
theorem lifted (os:Os) (started:os.Started) (H:Type) (enc:TypeId × Value→H) :
 ReturnsInHanded {} Try.checked os 5 .any (Rows.fnExactAllowsAttrSpec.pre6 enc Try.prog Try.f5 Rows.fnExactAllowsAttrRow.domain false) (Rows.fnExactAllowsAttrSpec.post enc Try.prog Try.f5 false true false false):=by
 refine returnsInHanded_of_change_sized (C:=Try.checked) own started (by kernel_rfl) Try.func5
  (ChangeSpec.witness6 (enc:=enc) (C:=Try.checked) false ⟨#[],#[.agg #[.bool false,.bool false,.slice none 0 0,.slice none 0 0,.slice none 0 0,.slice none 0 0,.slice none 0 0,.bool false,.bool false],.int .i64 0,.string ByteArray.empty,.agg #[.string ByteArray.empty,.string ByteArray.empty]],[]⟩ 8 (by kernel_rfl) (by kernel_rfl) (by kernel_rfl) (by kernel_rfl)) ?_
 intro W base args ds gs before hval0 hW _ _ _
 have hval:∀ (j:Nat) t v,Try.f5.params[j]? = some t→args[j]? = some v→Value.okWide Try.prog W .any base t v:=hval0
 have hW':=hW
 obtain ⟨p,q,hA0,hV,rfl,hfz,hnd⟩:=hW
 have hA:DataW.TrodAll enc Try.prog W 0 (fun _=>true) true Try.f5.params.toList args.toList ds p:=hA0
 rw [Try.params5] at hA hval
 obtain ⟨v0,vs0,d0,ds0,p0,q0,hargs,rfl,rfl,h0,r0⟩:=trodAll_cons hA
 obtain ⟨v1,vs1,d1,ds1,p1,q1,rfl,rfl,rfl,h1,r1⟩:=trodAll_cons r0
 obtain ⟨v2,vs2,d2,ds2,p2,q2,rfl,rfl,rfl,h2,r2⟩:=trodAll_cons r1
 obtain ⟨v3,vs3,d3,ds3,p3,q3,rfl,rfl,rfl,h3,r3⟩:=trodAll_cons r2
 obtain ⟨rfl,rfl,rfl⟩:=trodAll_nil r3
 obtain rfl:args=#[v0,v1,v2,v3]:=by cases args;simp_all
 obtain ⟨rfl,rfl⟩:=trodVars_none hV
 have k0:=h0
 have lt0:∀ x∈p0,x.block<W.heap.size:=by obtain ⟨m,hm⟩:=k0;exact DataW.trod_lt m _ _ _ hm
 obtain ⟨cs0,x0,rfl,K0,gd0⟩:=Open.open_struct (d:=PFnExactAllowsAttr.k43) (g:=PFnExactAllowsAttr.G43) Try.underlying43 PFnExactAllowsAttr.opens43 (hval 0 43 v0 rfl rfl) h0
 obtain ⟨A0_2,c0_2,A0_3,c0_3,A0_4,c0_4,A0_5,c0_5,A0_6,c0_6,rfl,l0_2,g0_2,l0_3,g0_3,l0_4,g0_4,l0_5,g0_5,l0_6,g0_6⟩:=PFnExactAllowsAttr.k43_open K0
 obtain ⟨x1,rfl,rfl,rfl,w1⟩:=open_int Try.underlying3 (hval 1 3 v1 rfl rfl) h1
 obtain ⟨x2,rfl,rfl,rfl,y2⟩:=open_string Try.underlying9 (hval 2 9 v2 rfl rfl) h2
 have k3:=h3
 have lt3:∀ x∈p3,x.block<W.heap.size:=by obtain ⟨m,hm⟩:=k3;exact DataW.trod_lt m _ _ _ hm
 obtain ⟨cs3,x3,rfl,K3,gd3⟩:=Open.open_struct (d:=PFnExactAllowsAttr.k45) (g:=PFnExactAllowsAttr.G45) Try.underlying45 PFnExactAllowsAttr.opens45 (hval 3 45 v3 rfl rfl) h3
 obtain rfl:=PFnExactAllowsAttr.k45_open K3
 clear hA0 hval0
 obtain ⟨k,hk⟩:=Pure.FnExactAllowsAttr x0 x1 x2 x3 gd0 w1 (by unfold Open.Short;unfold maxLen at y2;exact y2) gd3
 refine (PFnExactAllowsAttr.laws_FnExactAllowsAttr.calls k x0.f0 x0.f1 A0_2 c0_2 x0.f2 A0_3 c0_3 x0.f3 A0_4 c0_4 x0.f4 A0_5 c0_5 x0.f5 A0_6 c0_6 x0.f6 x0.f7 x0.f8 x1 x2 x3.f0 x3.f1 true W g0_2 l0_2 g0_3 l0_3 g0_4 l0_4 g0_5 l0_5 g0_6 l0_6 hk ⟨rfl⟩).mono fun e W' ⟨he,bel⟩=>?_
 subst he
 exact ⟨_,rfl,_,_,_,[],_,[],hW',trodAll_mk1 (shut_bool Try.underlying4 _),(trodAll_cons_mk (Below.trod laidOut (by kernel_rfl) (of_decide_eq_true (by kernel_rfl)) k0 bel lt0) (trodAll_cons_mk (shut_int Try.underlying3 w1) (trodAll_cons_mk (shut_string Try.underlying9 y2) (trodAll_cons_mk (Below.trod laidOut (by kernel_rfl) (of_decide_eq_true (by kernel_rfl)) k3 bel lt3) trodAll_mk0)))),rfl,bel.frame _,fun h=>by cases h⟩
theorem over:Rows.fnExactAllowsAttrRow.holds Try.pinned (OpenSpec.ofChange Rows.fnExactAllowsAttrSpec) :=
 OpenClaim.holds_of_wide 5 Try.f5 rfl rfl rfl rfl rfl rfl rfl ⟨rfl,rfl,rfl,rfl,rfl⟩ rfl rfl rfl rfl rfl (by kernel_rfl) Try.func5 (by kernel_rfl)
  (of_decide_eq_true (by kernel_rfl)) (by unfold Func.isWrapper;first|(rw [if_pos (by decide +kernel)];kernel_rfl)|(rw [if_neg (by decide +kernel)];exact ⟨rfl,rfl⟩))
  (fun os started H enc _=>lifted os started H enc)
theorem proved:Rows.FnExactAllowsAttrSaid:=over
#print axioms proved
end Go.Proofs.Ytmeafbneklphnaa.fnExactAllowsAttr
namespace Go.Proofs.Ytmeafbneklphnaa
/-- The row, under a short name, for the claim. -/
theorem fnExactAllowsAttr_holds:Rows.FnExactAllowsAttrSaid:=fnExactAllowsAttr.proved
end Go.Proofs.Ytmeafbneklphnaa
