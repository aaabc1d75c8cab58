/- FnExactCheckConfig: for every input the law returns true, and its arguments read behind the call as before. No conditions. -/
import Derived.Test.YtophaihdibplkaaRows
import Derived.Test.YtophaihdibplkaaOpensFnExactCheckConfig
import Derived.Test.YtophaihdibplkaaPureFnExactCheckConfig
import Derived.WalkKit
import Derived.ProofKit
import Derived.OpenShut
import Derived.ShutString
import Derived.ChangeOld
import Derived.Below
import Derived.SizedLaws
import Derived.Carry
namespace Go.Proofs.Ytophaihdibplkaa.fnExactCheckConfig
open Go.ChangeShapes Go.WideShapes Go.ChangeAt Go.RowKit Go.Proofs.YtophaihdibplkaaW.PrintWords
open Go.ChangeMaps (open_string shut_string)
theorem own : ownKnob Try.prog.godebug = none := by kernel_rfl
theorem laidOut : laidOutB Try.prog = true := by kernel_rfl
set_option maxRecDepth 100000 in
theorem lifted (os : Os) (started : os.Started) (H : Type) (enc : TypeId × Value → H) :
    ReturnsInHanded {} Try.checked os 11 .any (Rows.fnExactCheckConfigSpec.pre6 enc Try.prog Try.f11 Rows.fnExactCheckConfigRow.domain false) (Rows.fnExactCheckConfigSpec.post enc Try.prog Try.f11 false true false false) := by
  refine returnsInHanded_of_change_sized (C := Try.checked) own started (by kernel_rfl) Try.func11
    (ChangeSpec.witness6 (enc := enc) (C := Try.checked) false ⟨#[], #[.agg #[.bool false, .bool false, .slice none 0 0, .slice none 0 0, .slice none 0 0, .slice none 0 0, .slice none 0 0, .bool false, .bool false]], []⟩ 8 (by kernel_rfl) (by kernel_rfl) (by kernel_rfl) (by kernel_rfl)) ?_
  intro W base args ds gs before hval0 hW _ _ _
  have hval : ∀ (j : Nat) t v, Try.f11.params[j]? = some t → args[j]? = some v → Value.okWide Try.prog W .any base t v := hval0
  have hW' := hW
  obtain ⟨p, q, hA0, hV, rfl, hfz, hnd⟩ := hW
  have hA : DataW.TrodAll enc Try.prog W 0 (fun _ => true) true Try.f11.params.toList args.toList ds p := hA0
  rw [Try.params11] at hA hval
  obtain ⟨v0, vs0, d0, ds0, p0, q0, hargs, rfl, rfl, h0, r0⟩ := trodAll_cons hA
  obtain ⟨rfl, rfl, rfl⟩ := trodAll_nil r0
  obtain rfl : args = #[v0] := by cases args; simp_all
  obtain ⟨rfl, rfl⟩ := trodVars_none hV
  have k0 := h0
  have lt0 : ∀ x ∈ p0, x.block < W.heap.size := by obtain ⟨m, hm⟩ := k0; exact DataW.trod_lt m _ _ _ hm
  obtain ⟨cs0, x0, rfl, K0, gd0⟩ := Open.open_struct (d := PFnExactCheckConfig.k73) (g := PFnExactCheckConfig.G73) Try.underlying73 PFnExactCheckConfig.opens73 (hval 0 73 v0 rfl rfl) h0
  obtain ⟨A0_2, c0_2, A0_3, c0_3, A0_4, c0_4, A0_5, c0_5, A0_6, c0_6, rfl, l0_2, g0_2, l0_3, g0_3, l0_4, g0_4, l0_5, g0_5, l0_6, g0_6⟩ := PFnExactCheckConfig.k73_open K0
  clear hA0 hval0
  obtain ⟨k, hk⟩ := Pure.FnExactCheckConfig x0 gd0
  refine (PFnExactCheckConfig.laws_FnExactCheckConfig.calls k x0.f0 x0.f1 A0_2 c0_2 x0.f2 A0_3 c0_3 x0.f3 A0_4 c0_4 x0.f4 A0_5 c0_5 x0.f5 A0_6 c0_6 x0.f6 x0.f7 x0.f8 true W g0_2 l0_2 g0_3 l0_3 g0_4 l0_4 g0_5 l0_5 g0_6 l0_6 hk ⟨rfl⟩).mono fun e W' ⟨he, bel⟩ => ?_
  subst he
  exact ⟨_, rfl, _, _, _, [], _, [], hW', trodAll_mk1 (shut_bool Try.underlying4 _), (trodAll_cons_mk (Below.trod laidOut (by kernel_rfl) (of_decide_eq_true (by kernel_rfl)) k0 bel lt0) trodAll_mk0), rfl, bel.frame _, fun h => by cases h⟩
theorem over : Rows.fnExactCheckConfigRow.holds Try.pinned (OpenSpec.ofChange Rows.fnExactCheckConfigSpec) :=
  OpenClaim.holds_of_wide 11 Try.f11 rfl rfl rfl rfl rfl rfl rfl ⟨rfl, rfl, rfl, rfl, rfl⟩ rfl rfl rfl rfl rfl (by kernel_rfl) Try.func11 (by kernel_rfl)
    (of_decide_eq_true (by kernel_rfl)) (by unfold Func.isWrapper; first | (rw [if_pos (by decide +kernel)]; kernel_rfl) | (rw [if_neg (by decide +kernel)]; exact ⟨rfl, rfl⟩))
    (fun os started H enc _ => lifted os started H enc)
theorem proved : Rows.FnExactCheckConfigSaid := over
#print axioms proved
end Go.Proofs.Ytophaihdibplkaa.fnExactCheckConfig
namespace Go.Proofs.Ytophaihdibplkaa
/-- The row, under a short name, for the claim. -/
theorem fnExactCheckConfig_holds : Rows.FnExactCheckConfigSaid := fnExactCheckConfig.proved
end Go.Proofs.Ytophaihdibplkaa
