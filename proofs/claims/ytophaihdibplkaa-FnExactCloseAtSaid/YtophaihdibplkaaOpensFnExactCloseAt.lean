/- The arguments of FnExactCloseAt opened: what reads as data is of the printed kinds; its pure statement. No conditions. -/
import Derived.Test.YtophaihdibplkaaOpen
import Derived.Test.YtophaihdibplkaaPFnExactCloseAtx12
import Derived.KernelRfl
namespace Go.Proofs.Ytophaihdibplkaa.PFnExactCloseAt
open Go.RowKit Go.ChangeShapes Go.WideShapes Go.Proofs.YtophaihdibplkaaW.PrintWords
def G94 (x : S94) : Prop := Open.Short x.f0 ∧ (Lit.int .i64 x.f1).wf = true
theorem opens94 : ∀ n, Open.Opens Try.prog 94 k94 G94 n := by
  intro n0
  intro H enc w cs x h
  obtain ⟨xs, n, hn, _, hl, hlen, hf⟩ := DataW.trod_struct Try.underlying94 h
  have hl2 : cs.length = 2 := hl.trans (by kernel_rfl)
  clear hl
  obtain ⟨c0, c1, rfl⟩ := Open.list2 hl2
  obtain ⟨y0, e0⟩ := Open.field_of hlen hf 0 _ rfl
  replace e0 : DataW.trod enc Try.prog w 0 (fun _ => true) true n 9 [c0] = some y0 := by
    rw [← e0]
    show _ = DataW.trod enc Try.prog w 0 (fun _ => true) true n 9 (([c0, c1].drop 0).take (Try.prog.cellsOf 9))
    rw [(show Try.prog.cellsOf 9 = 1 by kernel_rfl)]
    rfl
  obtain ⟨y1, e1⟩ := Open.field_of hlen hf 1 _ rfl
  replace e1 : DataW.trod enc Try.prog w 0 (fun _ => true) true n 3 [c1] = some y1 := by
    rw [← e1]
    show _ = DataW.trod enc Try.prog w 0 (fun _ => true) true n 3 (([c0, c1].drop 1).take (Try.prog.cellsOf 3))
    rw [(show Try.prog.cellsOf 3 = 1 by kernel_rfl)]
    rfl
  obtain ⟨z0, K0, g0⟩ := (fun n => Open.opens_string Try.underlying9 n) n H enc w _ _ e0
  injection (show [c0] = [.string z0] from K0) with q0 _
  subst q0
  obtain ⟨z1, K1, g1⟩ := (fun n => Open.opens_int Try.underlying3 n) n H enc w _ _ e1
  injection (show [c1] = [.int .i64 z1] from K1) with q1 _
  subst q1
  exact ⟨⟨z0, z1⟩, k94_mk w ⟨z0, z1⟩ , ⟨g0, g1⟩⟩
def laws_FnExactCloseAt.PureS : Prop := ∀ (x0 : (List S94)) (x1 : ByteArray), Open.Few (G94) x0 → Open.Short x1 → ∃ k, laws_FnExactCloseAt.f k x0 x1 = some true
end Go.Proofs.Ytophaihdibplkaa.PFnExactCloseAt
