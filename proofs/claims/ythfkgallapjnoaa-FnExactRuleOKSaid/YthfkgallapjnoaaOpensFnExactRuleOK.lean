/- The arguments of FnExactRuleOK opened: what reads as data is of the printed kinds; its pure statement. No conditions. -/
import Derived.Test.YthfkgallapjnoaaOpen
import Derived.Test.YthfkgallapjnoaaPFnExactRuleOKx3
import Derived.KernelRfl
namespace Go.Proofs.Ythfkgallapjnoaa.PFnExactRuleOK
open Go.RowKit Go.ChangeShapes Go.WideShapes Go.Proofs.YthfkgallapjnoaaW.PrintWords
def G30 (x : S30) : Prop := (Lit.int .i64 x.f0).wf = true ∧ Open.Short x.f1 ∧ Open.Few (Open.Short) x.f2
theorem opens30 : ∀ n, Open.Opens Try.prog 30 k30 G30 n := by
  intro n0
  intro H enc w cs x h
  obtain ⟨xs, n, hn, _, hl, hlen, hf⟩ := DataW.trod_struct Try.underlying30 h
  obtain ⟨c0, c1, c2, rfl⟩ : ∃ c0 c1 c2, cs = [c0, c1, c2] := by
    have hl2 : cs.length = 3 := hl.trans (by kernel_rfl)
    match cs, hl2 with
    | [c0, c1, c2], _ => exact ⟨c0, c1, c2, rfl⟩
  obtain ⟨y0, e0⟩ := Open.field_of hlen hf 0 _ rfl
  replace e0 : DataW.trod enc Try.prog w 0 (fun _ => true) true n 3 [c0] = some y0 := by
    rw [← e0]
    show _ = DataW.trod enc Try.prog w 0 (fun _ => true) true n 3 (([c0, c1, c2].drop 0).take (Try.prog.cellsOf 3))
    rw [(show Try.prog.cellsOf 3 = 1 by kernel_rfl)]
    rfl
  obtain ⟨y1, e1⟩ := Open.field_of hlen hf 1 _ rfl
  replace e1 : DataW.trod enc Try.prog w 0 (fun _ => true) true n 9 [c1] = some y1 := by
    rw [← e1]
    show _ = DataW.trod enc Try.prog w 0 (fun _ => true) true n 9 (([c0, c1, c2].drop 1).take (Try.prog.cellsOf 9))
    rw [(show Try.prog.cellsOf 9 = 1 by kernel_rfl)]
    rfl
  obtain ⟨y2, e2⟩ := Open.field_of hlen hf 2 _ rfl
  replace e2 : DataW.trod enc Try.prog w 0 (fun _ => true) true n 27 [c2] = some y2 := by
    rw [← e2]
    show _ = DataW.trod enc Try.prog w 0 (fun _ => true) true n 27 (([c0, c1, c2].drop 2).take (Try.prog.cellsOf 27))
    rw [(show Try.prog.cellsOf 27 = 1 by kernel_rfl)]
    rfl
  obtain ⟨z0, K0, g0⟩ := (fun n => Open.opens_int Try.underlying3 n) n H enc w _ _ e0
  injection (show [c0] = [.int .i64 z0] from K0) with q0 _
  subst q0
  obtain ⟨z1, K1, g1⟩ := (fun n => Open.opens_string Try.underlying9 n) n H enc w _ _ e1
  injection (show [c1] = [.string z1] from K1) with q1 _
  subst q1
  obtain ⟨z2, K2, g2⟩ := (fun n => Open.opens_slice Try.underlying27 (by kernel_rfl) (fun m _ => (fun n => Open.opens_string Try.underlying9 n) m)) n H enc w _ _ e2
  obtain ⟨A2, d2, q2, m2, r2⟩ := K2
  injection q2 with q2 _
  subst q2
  exact ⟨⟨z0, z1, z2⟩, k30_mk w ⟨z0, z1, z2⟩ m2 r2, ⟨g0, g1, g2⟩⟩
def laws_FnExactRuleOK.PureS : Prop := ∀ (x0 : S30), G30 x0 → ∃ k, laws_FnExactRuleOK.f k x0.f0 x0.f1 x0.f2 = some true
end Go.Proofs.Ythfkgallapjnoaa.PFnExactRuleOK
