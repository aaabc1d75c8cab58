/- FnExactRuleOK: for every input the law returns true, and its arguments read behind the call as before. No conditions. -/
import Derived.Test.YthfkgallapjnoaaRows
import Derived.Test.YthfkgallapjnoaaOpensFnExactRuleOK
import Derived.Test.YthfkgallapjnoaaPureFnExactRuleOK
import Derived.WalkKit
import Derived.ProofKit
import Derived.OpenShut
import Derived.ShutString
import Derived.ChangeOld
import Derived.Below
import Derived.SizedLaws
import Derived.Carry
namespace Go.Proofs.Ythfkgallapjnoaa.fnExactRuleOK
open Go.ChangeShapes Go.WideShapes Go.ChangeAt Go.RowKit Go.Proofs.YthfkgallapjnoaaW.PrintWords
open Go.ChangeMaps (open_string shut_string)
theorem own : ownKnob Try.prog.godebug = none := by kernel_rfl
theorem laidOut : laidOutB Try.prog = true := by kernel_rfl
set_option maxRecDepth 100000 in
theorem lifted (os : Os) (started : os.Started) (H : Type) (enc : TypeId × Value → H) :
    ReturnsInHanded {} Try.checked os 13 .any (Rows.fnExactRuleOKSpec.pre6 enc Try.prog Try.f13 Rows.fnExactRuleOKRow.domain false) (Rows.fnExactRuleOKSpec.post enc Try.prog Try.f13 false true false false) := by
  refine returnsInHanded_of_change_sized (C := Try.checked) own started (by kernel_rfl) Try.func13
    (ChangeSpec.witness6 (enc := enc) (C := Try.checked) false ⟨#[], #[.agg #[.int .i64 0, .string ByteArray.empty, .slice none 0 0]], []⟩ 8 (by kernel_rfl) (by kernel_rfl) (by kernel_rfl) (by kernel_rfl)) ?_
  intro W base args ds gs before hval0 hW _ _ _
  have hval : ∀ (j : Nat) t v, Try.f13.params[j]? = some t → args[j]? = some v → Value.okWide Try.prog W .any base t v := hval0
  have hW' := hW
  obtain ⟨p, q, hA0, hV, rfl, hfz, hnd⟩ := hW
  have hA : DataW.TrodAll enc Try.prog W 0 (fun _ => true) true Try.f13.params.toList args.toList ds p := hA0
  rw [Try.params13] at hA hval
  obtain ⟨v0, vs0, d0, ds0, p0, q0, hargs, rfl, rfl, h0, r0⟩ := trodAll_cons hA
  obtain ⟨rfl, rfl, rfl⟩ := trodAll_nil r0
  obtain rfl : args = #[v0] := by cases args; simp_all
  obtain ⟨rfl, rfl⟩ := trodVars_none hV
  have k0 := h0
  have lt0 : ∀ x ∈ p0, x.block < W.heap.size := by obtain ⟨m, hm⟩ := k0; exact DataW.trod_lt m _ _ _ hm
  obtain ⟨cs0, x0, rfl, K0, gd0⟩ := Open.open_struct (d := PFnExactRuleOK.k30) (g := PFnExactRuleOK.G30) Try.underlying30 PFnExactRuleOK.opens30 (hval 0 30 v0 rfl rfl) h0
  obtain ⟨A0_2, c0_2, rfl, l0_2, g0_2⟩ := PFnExactRuleOK.k30_open K0
  clear hA0 hval0
  obtain ⟨k, hk⟩ := Pure.FnExactRuleOK x0 gd0
  refine (PFnExactRuleOK.laws_FnExactRuleOK.calls k x0.f0 x0.f1 A0_2 c0_2 x0.f2 true W g0_2 l0_2 hk).mono fun e W' ⟨he, bel⟩ => ?_
  subst he
  exact ⟨_, rfl, _, _, _, [], _, [], hW', trodAll_mk1 (shut_bool Try.underlying4 _), (trodAll_cons_mk (Below.trod laidOut (by kernel_rfl) (of_decide_eq_true (by kernel_rfl)) k0 bel lt0) trodAll_mk0), rfl, bel.frame _, fun h => by cases h⟩
theorem over : Rows.fnExactRuleOKRow.holds Try.pinned (OpenSpec.ofChange Rows.fnExactRuleOKSpec) :=
  OpenClaim.holds_of_wide 13 Try.f13 rfl rfl rfl rfl rfl rfl rfl ⟨rfl, rfl, rfl, rfl, rfl⟩ rfl rfl rfl rfl rfl (by kernel_rfl) Try.func13 (by kernel_rfl)
    (of_decide_eq_true (by kernel_rfl)) (by unfold Func.isWrapper; first | (rw [if_pos (by decide +kernel)]; kernel_rfl) | (rw [if_neg (by decide +kernel)]; exact ⟨rfl, rfl⟩))
    (fun os started H enc _ => lifted os started H enc)
theorem proved : Rows.FnExactRuleOKSaid := over
#print axioms proved
end Go.Proofs.Ythfkgallapjnoaa.fnExactRuleOK
namespace Go.Proofs.Ythfkgallapjnoaa
/-- The row, under a short name, for the claim. -/
theorem fnExactRuleOK_holds : Rows.FnExactRuleOKSaid := fnExactRuleOK.proved
end Go.Proofs.Ythfkgallapjnoaa
