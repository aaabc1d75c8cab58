/- The arguments of FnExactSameToken opened: what reads as data is of the printed kinds; its pure statement. No conditions. -/
import Derived.Test.YthfkgallapjnoaaOpen
import Derived.Test.YthfkgallapjnoaaPFnExactSameTokenx4
import Derived.KernelRfl
namespace Go.Proofs.Ythfkgallapjnoaa.PFnExactSameToken
open Go.RowKit Go.ChangeShapes Go.WideShapes Go.Proofs.YthfkgallapjnoaaW.PrintWords
def G72 (x : S72) : Prop := Open.Short x.f0 ∧ Open.Short x.f1
theorem opens72 : ∀ n, Open.Opens Try.prog 72 k72 G72 n := by
  intro n0
  intro H enc w cs x h
  obtain ⟨xs, n, hn, _, hl, hlen, hf⟩ := DataW.trod_struct Try.underlying72 h
  obtain ⟨c0, c1, rfl⟩ : ∃ c0 c1, cs = [c0, c1] := by
    have hl2 : cs.length = 2 := hl.trans (by kernel_rfl)
    match cs, hl2 with
    | [c0, c1], _ => exact ⟨c0, c1, rfl⟩
  obtain ⟨y0, e0⟩ := Open.field_of hlen hf 0 _ rfl
  replace e0 : DataW.trod enc Try.prog w 0 (fun _ => true) true n 9 [c0] = some y0 := by
    rw [← e0]
    show _ = DataW.trod enc Try.prog w 0 (fun _ => true) true n 9 (([c0, c1].drop 0).take (Try.prog.cellsOf 9))
    rw [(show Try.prog.cellsOf 9 = 1 by kernel_rfl)]
    rfl
  obtain ⟨y1, e1⟩ := Open.field_of hlen hf 1 _ rfl
  replace e1 : DataW.trod enc Try.prog w 0 (fun _ => true) true n 9 [c1] = some y1 := by
    rw [← e1]
    show _ = DataW.trod enc Try.prog w 0 (fun _ => true) true n 9 (([c0, c1].drop 1).take (Try.prog.cellsOf 9))
    rw [(show Try.prog.cellsOf 9 = 1 by kernel_rfl)]
    rfl
  obtain ⟨z0, K0, g0⟩ := (fun n => Open.opens_string Try.underlying9 n) n H enc w _ _ e0
  injection (show [c0] = [.string z0] from K0) with q0 _
  subst q0
  obtain ⟨z1, K1, g1⟩ := (fun n => Open.opens_string Try.underlying9 n) n H enc w _ _ e1
  injection (show [c1] = [.string z1] from K1) with q1 _
  subst q1
  exact ⟨⟨z0, z1⟩, k72_mk w ⟨z0, z1⟩ , ⟨g0, g1⟩⟩
def G39 (x : S39) : Prop := (Lit.int .i64 x.f0).wf = true ∧ (Lit.int .i64 x.f1).wf = true ∧ (Lit.int .i64 x.f2).wf = true ∧ Open.Short x.f3 ∧ Open.Short x.f4 ∧ Open.Few (G72) x.f5 ∧ True
theorem opens39 : ∀ n, Open.Opens Try.prog 39 k39 G39 n := by
  intro n0
  intro H enc w cs x h
  obtain ⟨xs, n, hn, _, hl, hlen, hf⟩ := DataW.trod_struct Try.underlying39 h
  obtain ⟨c0, c1, c2, c3, c4, c5, c6, rfl⟩ : ∃ c0 c1 c2 c3 c4 c5 c6, cs = [c0, c1, c2, c3, c4, c5, c6] := by
    have hl2 : cs.length = 7 := hl.trans (by kernel_rfl)
    match cs, hl2 with
    | [c0, c1, c2, c3, c4, c5, c6], _ => exact ⟨c0, c1, c2, c3, c4, c5, c6, rfl⟩
  obtain ⟨y0, e0⟩ := Open.field_of hlen hf 0 _ rfl
  replace e0 : DataW.trod enc Try.prog w 0 (fun _ => true) true n 3 [c0] = some y0 := by
    rw [← e0]
    show _ = DataW.trod enc Try.prog w 0 (fun _ => true) true n 3 (([c0, c1, c2, c3, c4, c5, c6].drop 0).take (Try.prog.cellsOf 3))
    rw [(show Try.prog.cellsOf 3 = 1 by kernel_rfl)]
    rfl
  obtain ⟨y1, e1⟩ := Open.field_of hlen hf 1 _ rfl
  replace e1 : DataW.trod enc Try.prog w 0 (fun _ => true) true n 3 [c1] = some y1 := by
    rw [← e1]
    show _ = DataW.trod enc Try.prog w 0 (fun _ => true) true n 3 (([c0, c1, c2, c3, c4, c5, c6].drop 1).take (Try.prog.cellsOf 3))
    rw [(show Try.prog.cellsOf 3 = 1 by kernel_rfl)]
    rfl
  obtain ⟨y2, e2⟩ := Open.field_of hlen hf 2 _ rfl
  replace e2 : DataW.trod enc Try.prog w 0 (fun _ => true) true n 3 [c2] = some y2 := by
    rw [← e2]
    show _ = DataW.trod enc Try.prog w 0 (fun _ => true) true n 3 (([c0, c1, c2, c3, c4, c5, c6].drop 2).take (Try.prog.cellsOf 3))
    rw [(show Try.prog.cellsOf 3 = 1 by kernel_rfl)]
    rfl
  obtain ⟨y3, e3⟩ := Open.field_of hlen hf 3 _ rfl
  replace e3 : DataW.trod enc Try.prog w 0 (fun _ => true) true n 9 [c3] = some y3 := by
    rw [← e3]
    show _ = DataW.trod enc Try.prog w 0 (fun _ => true) true n 9 (([c0, c1, c2, c3, c4, c5, c6].drop 3).take (Try.prog.cellsOf 9))
    rw [(show Try.prog.cellsOf 9 = 1 by kernel_rfl)]
    rfl
  obtain ⟨y4, e4⟩ := Open.field_of hlen hf 4 _ rfl
  replace e4 : DataW.trod enc Try.prog w 0 (fun _ => true) true n 9 [c4] = some y4 := by
    rw [← e4]
    show _ = DataW.trod enc Try.prog w 0 (fun _ => true) true n 9 (([c0, c1, c2, c3, c4, c5, c6].drop 4).take (Try.prog.cellsOf 9))
    rw [(show Try.prog.cellsOf 9 = 1 by kernel_rfl)]
    rfl
  obtain ⟨y5, e5⟩ := Open.field_of hlen hf 5 _ rfl
  replace e5 : DataW.trod enc Try.prog w 0 (fun _ => true) true n 37 [c5] = some y5 := by
    rw [← e5]
    show _ = DataW.trod enc Try.prog w 0 (fun _ => true) true n 37 (([c0, c1, c2, c3, c4, c5, c6].drop 5).take (Try.prog.cellsOf 37))
    rw [(show Try.prog.cellsOf 37 = 1 by kernel_rfl)]
    rfl
  obtain ⟨y6, e6⟩ := Open.field_of hlen hf 6 _ rfl
  replace e6 : DataW.trod enc Try.prog w 0 (fun _ => true) true n 4 [c6] = some y6 := by
    rw [← e6]
    show _ = DataW.trod enc Try.prog w 0 (fun _ => true) true n 4 (([c0, c1, c2, c3, c4, c5, c6].drop 6).take (Try.prog.cellsOf 4))
    rw [(show Try.prog.cellsOf 4 = 1 by kernel_rfl)]
    rfl
  obtain ⟨z0, K0, g0⟩ := (fun n => Open.opens_int Try.underlying3 n) n H enc w _ _ e0
  injection (show [c0] = [.int .i64 z0] from K0) with q0 _
  subst q0
  obtain ⟨z1, K1, g1⟩ := (fun n => Open.opens_int Try.underlying3 n) n H enc w _ _ e1
  injection (show [c1] = [.int .i64 z1] from K1) with q1 _
  subst q1
  obtain ⟨z2, K2, g2⟩ := (fun n => Open.opens_int Try.underlying3 n) n H enc w _ _ e2
  injection (show [c2] = [.int .i64 z2] from K2) with q2 _
  subst q2
  obtain ⟨z3, K3, g3⟩ := (fun n => Open.opens_string Try.underlying9 n) n H enc w _ _ e3
  injection (show [c3] = [.string z3] from K3) with q3 _
  subst q3
  obtain ⟨z4, K4, g4⟩ := (fun n => Open.opens_string Try.underlying9 n) n H enc w _ _ e4
  injection (show [c4] = [.string z4] from K4) with q4 _
  subst q4
  obtain ⟨z5, K5, g5⟩ := (fun n => Open.opens_slice Try.underlying37 (by kernel_rfl) (fun m _ => opens72 m)) n H enc w _ _ e5
  obtain ⟨A5, d5, q5, m5, r5⟩ := K5
  injection q5 with q5 _
  subst q5
  obtain ⟨z6, K6, g6⟩ := (fun n => Open.opens_bool Try.underlying4 n) n H enc w _ _ e6
  injection (show [c6] = [.bool z6] from K6) with q6 _
  subst q6
  exact ⟨⟨z0, z1, z2, z3, z4, z5, z6⟩, k39_mk w ⟨z0, z1, z2, z3, z4, z5, z6⟩ m5 r5, ⟨g0, g1, g2, g3, g4, g5, g6⟩⟩
def laws_FnExactSameToken.PureS : Prop := ∀ (x0 : S39) (x1 : S39), G39 x0 → G39 x1 → ∃ k, laws_FnExactSameToken.f k x0.f0 x0.f1 x0.f2 x0.f3 x0.f4 x0.f5 x0.f6 x1.f0 x1.f1 x1.f2 x1.f3 x1.f4 x1.f5 x1.f6 = some true
end Go.Proofs.Ythfkgallapjnoaa.PFnExactSameToken
