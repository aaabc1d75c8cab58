/-
  NARROWER THAN 'FOR EVERY INPUT', by the rows' own cells (each row's printed sentence says how): FnExactTreeOK: loops.
  DERIVED. THE GIVEN ROWS OF THIS SEAT. 11 by the template 'for every input the law returns true; each argument reads behind the call as it read before'; 0 by the template 'total and deterministic' (their statements: YtophaihdibplkaaTotals.lean).
  GIVEN WITH THE SEED: the statements are not yours to turn. If you find one false, say at which input.
  Laid BY PROGRAM, IN A SANDBOX (cutbox-rows.mjs): the forced cells as the released guide's own fill.sh prints them over the translation 98232949e22d331e… (all of the seat's roots in one cut). By AI agents, Wed Nov 11 2026. No macro, syntax, notation, axiom, sorry.
-/
import Derived.Test.YtophaihdibplkaaChecked
import GoSem.Claim
import GoSem.ClaimJoined
import GoSem.ClaimMapViews
import Derived.JoinedTies
import Derived.KernelRfl
namespace Go.Proofs.Ytophaihdibplkaa
/- THE CELL 'sum', in the pinned program and in every row, IS THE sha256 OF THE DUMP (.gsa) THAT YtophaihdibplkaaProg.lean LOADS. Nothing in Lean hashes anything: it is a label: what it is worth is what the hold of that sum in a sandbox is worth. -/
noncomputable def Try.pinned : Pinned := { name := "ytophaihdibplkaa", sum := "98232949e22d331e9ad2252b876feefa13208a77c6899a609d9edc484d62fc72", checked := Try.checked }
namespace Rows
def none {H : Type} : Left H := { results := [], args := [] }

/-- 'laws.FnExactCallOK': WHATEVER THE INPUT: true; the input reads as it did. -/
def fnExactCallOKSpec : ChangeSpec := { name := "fnExactCallOK", fn := fun _ => fun
  | [d] => { results := [.lit (.bool true)], args := [d] }
  | _ => none }
def fnExactCallOKRow : OpenClaim := { program := "ytophaihdibplkaa", sum := "98232949e22d331e9ad2252b876feefa13208a77c6899a609d9edc484d62fc72", func := "loop.example/g00788/laws.FnExactCallOK", spec := "fnExactCallOK", unfollowed := true, recurses := true, apart := false }
def FnExactCallOKSaid : Prop := fnExactCallOKRow.holds Try.pinned (OpenSpec.ofChange fnExactCallOKSpec)

/-- ITS FALSE NEIGHBOUR: 'it returns false'. Refute it at one input. -/
def fnExactCallOKWrong : ChangeSpec := { name := "fnExactCallOK", fn := fun _ => fun
  | [d] => { results := [.lit (.bool false)], args := [d] }
  | _ => none }
def FnExactCallOKWrongFalsely : Prop := fnExactCallOKRow.holds Try.pinned (OpenSpec.ofChange fnExactCallOKWrong)

/-- 'laws.FnExactCloseAt': WHATEVER THE INPUT: true; the input reads as it did. -/
def fnExactCloseAtSpec : ChangeSpec := { name := "fnExactCloseAt", fn := fun _ => fun
  | [d1, d2] => { results := [.lit (.bool true)], args := [d1, d2] }
  | _ => none }
def fnExactCloseAtRow : OpenClaim := { program := "ytophaihdibplkaa", sum := "98232949e22d331e9ad2252b876feefa13208a77c6899a609d9edc484d62fc72", func := "loop.example/g00788/laws.FnExactCloseAt", spec := "fnExactCloseAt", unfollowed := true, recurses := true, apart := false }
def FnExactCloseAtSaid : Prop := fnExactCloseAtRow.holds Try.pinned (OpenSpec.ofChange fnExactCloseAtSpec)

/-- ITS FALSE NEIGHBOUR: 'it returns false'. Refute it at one input. -/
def fnExactCloseAtWrong : ChangeSpec := { name := "fnExactCloseAt", fn := fun _ => fun
  | [d1, d2] => { results := [.lit (.bool false)], args := [d1, d2] }
  | _ => none }
def FnExactCloseAtWrongFalsely : Prop := fnExactCloseAtRow.holds Try.pinned (OpenSpec.ofChange fnExactCloseAtWrong)

/-- 'laws.FnExactImplied': WHATEVER THE INPUT: true; the input reads as it did. -/
def fnExactImpliedSpec : ChangeSpec := { name := "fnExactImplied", fn := fun _ => fun
  | [d1, d2] => { results := [.lit (.bool true)], args := [d1, d2] }
  | _ => none }
def fnExactImpliedRow : OpenClaim := { program := "ytophaihdibplkaa", sum := "98232949e22d331e9ad2252b876feefa13208a77c6899a609d9edc484d62fc72", func := "loop.example/g00788/laws.FnExactImplied", spec := "fnExactImplied", unfollowed := true, recurses := true, apart := false }
def FnExactImpliedSaid : Prop := fnExactImpliedRow.holds Try.pinned (OpenSpec.ofChange fnExactImpliedSpec)

/-- ITS FALSE NEIGHBOUR: 'it returns false'. Refute it at one input. -/
def fnExactImpliedWrong : ChangeSpec := { name := "fnExactImplied", fn := fun _ => fun
  | [d1, d2] => { results := [.lit (.bool false)], args := [d1, d2] }
  | _ => none }
def FnExactImpliedWrongFalsely : Prop := fnExactImpliedRow.holds Try.pinned (OpenSpec.ofChange fnExactImpliedWrong)

/-- 'laws.FnNames': WHATEVER THE INPUT: true; the input reads as it did. -/
def fnNamesSpec : ChangeSpec := { name := "fnNames", fn := fun _ => fun
  | [d1, d2] => { results := [.lit (.bool true)], args := [d1, d2] }
  | _ => none }
def fnNamesRow : OpenClaim := { program := "ytophaihdibplkaa", sum := "98232949e22d331e9ad2252b876feefa13208a77c6899a609d9edc484d62fc72", func := "loop.example/g00788/laws.FnNames", spec := "fnNames", unfollowed := true, recurses := true, apart := false }
def FnNamesSaid : Prop := fnNamesRow.holds Try.pinned (OpenSpec.ofChange fnNamesSpec)

/-- ITS FALSE NEIGHBOUR: 'it returns false'. Refute it at one input. -/
def fnNamesWrong : ChangeSpec := { name := "fnNames", fn := fun _ => fun
  | [d1, d2] => { results := [.lit (.bool false)], args := [d1, d2] }
  | _ => none }
def FnNamesWrongFalsely : Prop := fnNamesRow.holds Try.pinned (OpenSpec.ofChange fnNamesWrong)

/-- 'laws.FnExactPlaceOf': WHATEVER THE INPUT: true; the input reads as it did. -/
def fnExactPlaceOfSpec : ChangeSpec := { name := "fnExactPlaceOf", fn := fun _ => fun
  | [d1, d2] => { results := [.lit (.bool true)], args := [d1, d2] }
  | _ => none }
def fnExactPlaceOfRow : OpenClaim := { program := "ytophaihdibplkaa", sum := "98232949e22d331e9ad2252b876feefa13208a77c6899a609d9edc484d62fc72", func := "loop.example/g00788/laws.FnExactPlaceOf", spec := "fnExactPlaceOf", unfollowed := true, recurses := true, apart := false }
def FnExactPlaceOfSaid : Prop := fnExactPlaceOfRow.holds Try.pinned (OpenSpec.ofChange fnExactPlaceOfSpec)

/-- ITS FALSE NEIGHBOUR: 'it returns false'. Refute it at one input. -/
def fnExactPlaceOfWrong : ChangeSpec := { name := "fnExactPlaceOf", fn := fun _ => fun
  | [d1, d2] => { results := [.lit (.bool false)], args := [d1, d2] }
  | _ => none }
def FnExactPlaceOfWrongFalsely : Prop := fnExactPlaceOfRow.holds Try.pinned (OpenSpec.ofChange fnExactPlaceOfWrong)

/-- 'laws.FnExactCommentOK': WHATEVER THE INPUT: true; the input reads as it did. -/
def fnExactCommentOKSpec : ChangeSpec := { name := "fnExactCommentOK", fn := fun _ => fun
  | [d] => { results := [.lit (.bool true)], args := [d] }
  | _ => none }
def fnExactCommentOKRow : OpenClaim := { program := "ytophaihdibplkaa", sum := "98232949e22d331e9ad2252b876feefa13208a77c6899a609d9edc484d62fc72", func := "loop.example/g00788/laws.FnExactCommentOK", spec := "fnExactCommentOK", inPlace := ["internal/bytealg.IndexByteString", "internal/bytealg.IndexString"], unfollowed := true, recurses := true, named := ["internal/bytealg.MaxLen"], apart := false }
def FnExactCommentOKSaid : Prop := fnExactCommentOKRow.holds Try.pinned (OpenSpec.ofChange fnExactCommentOKSpec)

/-- ITS FALSE NEIGHBOUR: 'it returns false'. Refute it at one input. -/
def fnExactCommentOKWrong : ChangeSpec := { name := "fnExactCommentOK", fn := fun _ => fun
  | [d] => { results := [.lit (.bool false)], args := [d] }
  | _ => none }
def FnExactCommentOKWrongFalsely : Prop := fnExactCommentOKRow.holds Try.pinned (OpenSpec.ofChange fnExactCommentOKWrong)

/-- 'laws.FnExactSafeDocs': WHATEVER THE INPUT: true; the input reads as it did. -/
def fnExactSafeDocsSpec : ChangeSpec := { name := "fnExactSafeDocs", fn := fun _ => fun
  | [d] => { results := [.lit (.bool true)], args := [d] }
  | _ => none }
def fnExactSafeDocsRow : OpenClaim := { program := "ytophaihdibplkaa", sum := "98232949e22d331e9ad2252b876feefa13208a77c6899a609d9edc484d62fc72", func := "loop.example/g00788/laws.FnExactSafeDocs", spec := "fnExactSafeDocs", unfollowed := true, recurses := true, apart := false }
def FnExactSafeDocsSaid : Prop := fnExactSafeDocsRow.holds Try.pinned (OpenSpec.ofChange fnExactSafeDocsSpec)

/-- ITS FALSE NEIGHBOUR: 'it returns false'. Refute it at one input. -/
def fnExactSafeDocsWrong : ChangeSpec := { name := "fnExactSafeDocs", fn := fun _ => fun
  | [d] => { results := [.lit (.bool false)], args := [d] }
  | _ => none }
def FnExactSafeDocsWrongFalsely : Prop := fnExactSafeDocsRow.holds Try.pinned (OpenSpec.ofChange fnExactSafeDocsWrong)

/-- 'laws.FnExactTreeOK': WHATEVER THE INPUT: true; the input reads as it did. -/
def fnExactTreeOKSpec : ChangeSpec := { name := "fnExactTreeOK", fn := fun _ => fun
  | [d] => { results := [.lit (.bool true)], args := [d] }
  | _ => none }
def fnExactTreeOKRow : OpenClaim := { program := "ytophaihdibplkaa", sum := "98232949e22d331e9ad2252b876feefa13208a77c6899a609d9edc484d62fc72", func := "loop.example/g00788/laws.FnExactTreeOK", spec := "fnExactTreeOK", unfollowed := true, recurses := true, loops := true, apart := false }
def FnExactTreeOKSaid : Prop := fnExactTreeOKRow.holds Try.pinned (OpenSpec.ofChange fnExactTreeOKSpec)

/-- ITS FALSE NEIGHBOUR: 'it returns false'. Refute it at one input. -/
def fnExactTreeOKWrong : ChangeSpec := { name := "fnExactTreeOK", fn := fun _ => fun
  | [d] => { results := [.lit (.bool false)], args := [d] }
  | _ => none }
def FnExactTreeOKWrongFalsely : Prop := fnExactTreeOKRow.holds Try.pinned (OpenSpec.ofChange fnExactTreeOKWrong)

/-- 'laws.FnExactCheckConfig': WHATEVER THE INPUT: true; the input reads as it did. -/
def fnExactCheckConfigSpec : ChangeSpec := { name := "fnExactCheckConfig", fn := fun _ => fun
  | [d] => { results := [.lit (.bool true)], args := [d] }
  | _ => none }
def fnExactCheckConfigRow : OpenClaim := { program := "ytophaihdibplkaa", sum := "98232949e22d331e9ad2252b876feefa13208a77c6899a609d9edc484d62fc72", func := "loop.example/g00788/laws.FnExactCheckConfig", spec := "fnExactCheckConfig", unfollowed := true, recurses := true, apart := false }
def FnExactCheckConfigSaid : Prop := fnExactCheckConfigRow.holds Try.pinned (OpenSpec.ofChange fnExactCheckConfigSpec)

/-- ITS FALSE NEIGHBOUR: 'it returns false'. Refute it at one input. -/
def fnExactCheckConfigWrong : ChangeSpec := { name := "fnExactCheckConfig", fn := fun _ => fun
  | [d] => { results := [.lit (.bool false)], args := [d] }
  | _ => none }
def FnExactCheckConfigWrongFalsely : Prop := fnExactCheckConfigRow.holds Try.pinned (OpenSpec.ofChange fnExactCheckConfigWrong)

/-- 'laws.FnExactSameConfig': WHATEVER THE INPUT: true; the input reads as it did. -/
def fnExactSameConfigSpec : ChangeSpec := { name := "fnExactSameConfig", fn := fun _ => fun
  | [d1, d2] => { results := [.lit (.bool true)], args := [d1, d2] }
  | _ => none }
def fnExactSameConfigRow : OpenClaim := { program := "ytophaihdibplkaa", sum := "98232949e22d331e9ad2252b876feefa13208a77c6899a609d9edc484d62fc72", func := "loop.example/g00788/laws.FnExactSameConfig", spec := "fnExactSameConfig", unfollowed := true, recurses := true, apart := false }
def FnExactSameConfigSaid : Prop := fnExactSameConfigRow.holds Try.pinned (OpenSpec.ofChange fnExactSameConfigSpec)

/-- ITS FALSE NEIGHBOUR: 'it returns false'. Refute it at one input. -/
def fnExactSameConfigWrong : ChangeSpec := { name := "fnExactSameConfig", fn := fun _ => fun
  | [d1, d2] => { results := [.lit (.bool false)], args := [d1, d2] }
  | _ => none }
def FnExactSameConfigWrongFalsely : Prop := fnExactSameConfigRow.holds Try.pinned (OpenSpec.ofChange fnExactSameConfigWrong)

/-- 'laws.FnExactAllowsElement': WHATEVER THE INPUT: true; the input reads as it did. -/
def fnExactAllowsElementSpec : ChangeSpec := { name := "fnExactAllowsElement", fn := fun _ => fun
  | [d1, d2, d3] => { results := [.lit (.bool true)], args := [d1, d2, d3] }
  | _ => none }
def fnExactAllowsElementRow : OpenClaim := { program := "ytophaihdibplkaa", sum := "98232949e22d331e9ad2252b876feefa13208a77c6899a609d9edc484d62fc72", func := "loop.example/g00788/laws.FnExactAllowsElement", spec := "fnExactAllowsElement", unfollowed := true, recurses := true, apart := false }
def FnExactAllowsElementSaid : Prop := fnExactAllowsElementRow.holds Try.pinned (OpenSpec.ofChange fnExactAllowsElementSpec)

/-- ITS FALSE NEIGHBOUR: 'it returns false'. Refute it at one input. -/
def fnExactAllowsElementWrong : ChangeSpec := { name := "fnExactAllowsElement", fn := fun _ => fun
  | [d1, d2, d3] => { results := [.lit (.bool false)], args := [d1, d2, d3] }
  | _ => none }
def FnExactAllowsElementWrongFalsely : Prop := fnExactAllowsElementRow.holds Try.pinned (OpenSpec.ofChange fnExactAllowsElementWrong)

/- THE SECOND FORM. 'bulk': how many values and letters a reading holds, each counted each time it is reached (what is shared counts as often as it is met; a slice's spare places count too). A statement '..UptoSaid' is the law's where the arguments, and the package variables that the reading takes, are together of bulk at most 1048576: NARROWER than '..Said'. Prove '..Said' where nothing that the law and all that it calls make is longer than what came in: it says more and counts as full. Else prove '..UptoSaid'. A law counts once. -/
mutual
def uptoBulk {H : Type} : DataW H → Nat
  | .lit (.string bytes) => bytes.length + 1
  | .lit _ => 1
  | .nil => 1
  | .ptr d => uptoBulk d + 1
  | .slice elems spare => uptoBulkAll elems + uptoBulkAll spare + 1
  | .agg parts => uptoBulkAll parts + 1
  | .iface _ d => uptoBulk d + 1
  | .map entries => uptoBulkEntries entries + 1
  | .held _ => 1
def uptoBulkAll {H : Type} : List (DataW H) → Nat
  | [] => 0
  | d :: r => uptoBulk d + uptoBulkAll r
def uptoBulkEntries {H : Type} : List (Lit × DataW H) → Nat
  | [] => 0
  | x :: r => uptoBulkEntry x + uptoBulkEntries r
def uptoBulkEntry {H : Type} : Lit × DataW H → Nat
  | (.string bytes, d) => bytes.length + uptoBulk d + 1
  | (_, d) => uptoBulk d + 1
 end
def uptoSmall : (H : Type) → List (DataW H) → Bool := fun _ ds => decide (uptoBulkAll ds ≤ 1048576)
def OpenSpec.upto (s : _root_.Go.ChangeSpec) : _root_.Go.OpenSpec := { _root_.Go.OpenSpec.ofChange s with cond := some uptoSmall }

/-- 'laws.FnExactCallOK', WHERE WHAT IT READS IS OF BULK AT MOST 1048576: true; the input reads as it did. -/
def fnExactCallOKUptoRow : OpenClaim := { program := "ytophaihdibplkaa", sum := "98232949e22d331e9ad2252b876feefa13208a77c6899a609d9edc484d62fc72", func := "loop.example/g00788/laws.FnExactCallOK", spec := "fnExactCallOK", unfollowed := true, recurses := true, apart := false, narrowed := true }
def FnExactCallOKUptoSaid : Prop := fnExactCallOKUptoRow.holds Try.pinned (OpenSpec.upto fnExactCallOKSpec)

/-- 'laws.FnExactCloseAt', WHERE WHAT IT READS IS OF BULK AT MOST 1048576: true; the input reads as it did. -/
def fnExactCloseAtUptoRow : OpenClaim := { program := "ytophaihdibplkaa", sum := "98232949e22d331e9ad2252b876feefa13208a77c6899a609d9edc484d62fc72", func := "loop.example/g00788/laws.FnExactCloseAt", spec := "fnExactCloseAt", unfollowed := true, recurses := true, apart := false, narrowed := true }
def FnExactCloseAtUptoSaid : Prop := fnExactCloseAtUptoRow.holds Try.pinned (OpenSpec.upto fnExactCloseAtSpec)

/-- 'laws.FnExactImplied', WHERE WHAT IT READS IS OF BULK AT MOST 1048576: true; the input reads as it did. -/
def fnExactImpliedUptoRow : OpenClaim := { program := "ytophaihdibplkaa", sum := "98232949e22d331e9ad2252b876feefa13208a77c6899a609d9edc484d62fc72", func := "loop.example/g00788/laws.FnExactImplied", spec := "fnExactImplied", unfollowed := true, recurses := true, apart := false, narrowed := true }
def FnExactImpliedUptoSaid : Prop := fnExactImpliedUptoRow.holds Try.pinned (OpenSpec.upto fnExactImpliedSpec)

/-- 'laws.FnNames', WHERE WHAT IT READS IS OF BULK AT MOST 1048576: true; the input reads as it did. -/
def fnNamesUptoRow : OpenClaim := { program := "ytophaihdibplkaa", sum := "98232949e22d331e9ad2252b876feefa13208a77c6899a609d9edc484d62fc72", func := "loop.example/g00788/laws.FnNames", spec := "fnNames", unfollowed := true, recurses := true, apart := false, narrowed := true }
def FnNamesUptoSaid : Prop := fnNamesUptoRow.holds Try.pinned (OpenSpec.upto fnNamesSpec)

/-- 'laws.FnExactPlaceOf', WHERE WHAT IT READS IS OF BULK AT MOST 1048576: true; the input reads as it did. -/
def fnExactPlaceOfUptoRow : OpenClaim := { program := "ytophaihdibplkaa", sum := "98232949e22d331e9ad2252b876feefa13208a77c6899a609d9edc484d62fc72", func := "loop.example/g00788/laws.FnExactPlaceOf", spec := "fnExactPlaceOf", unfollowed := true, recurses := true, apart := false, narrowed := true }
def FnExactPlaceOfUptoSaid : Prop := fnExactPlaceOfUptoRow.holds Try.pinned (OpenSpec.upto fnExactPlaceOfSpec)

/-- 'laws.FnExactCommentOK', WHERE WHAT IT READS IS OF BULK AT MOST 1048576: true; the input reads as it did. -/
def fnExactCommentOKUptoRow : OpenClaim := { program := "ytophaihdibplkaa", sum := "98232949e22d331e9ad2252b876feefa13208a77c6899a609d9edc484d62fc72", func := "loop.example/g00788/laws.FnExactCommentOK", spec := "fnExactCommentOK", inPlace := ["internal/bytealg.IndexByteString", "internal/bytealg.IndexString"], unfollowed := true, recurses := true, named := ["internal/bytealg.MaxLen"], apart := false, narrowed := true }
def FnExactCommentOKUptoSaid : Prop := fnExactCommentOKUptoRow.holds Try.pinned (OpenSpec.upto fnExactCommentOKSpec)

/-- 'laws.FnExactSafeDocs', WHERE WHAT IT READS IS OF BULK AT MOST 1048576: true; the input reads as it did. -/
def fnExactSafeDocsUptoRow : OpenClaim := { program := "ytophaihdibplkaa", sum := "98232949e22d331e9ad2252b876feefa13208a77c6899a609d9edc484d62fc72", func := "loop.example/g00788/laws.FnExactSafeDocs", spec := "fnExactSafeDocs", unfollowed := true, recurses := true, apart := false, narrowed := true }
def FnExactSafeDocsUptoSaid : Prop := fnExactSafeDocsUptoRow.holds Try.pinned (OpenSpec.upto fnExactSafeDocsSpec)

/-- 'laws.FnExactTreeOK', WHERE WHAT IT READS IS OF BULK AT MOST 1048576: true; the input reads as it did. -/
def fnExactTreeOKUptoRow : OpenClaim := { program := "ytophaihdibplkaa", sum := "98232949e22d331e9ad2252b876feefa13208a77c6899a609d9edc484d62fc72", func := "loop.example/g00788/laws.FnExactTreeOK", spec := "fnExactTreeOK", unfollowed := true, recurses := true, loops := true, apart := false, narrowed := true }
def FnExactTreeOKUptoSaid : Prop := fnExactTreeOKUptoRow.holds Try.pinned (OpenSpec.upto fnExactTreeOKSpec)

/-- 'laws.FnExactCheckConfig', WHERE WHAT IT READS IS OF BULK AT MOST 1048576: true; the input reads as it did. -/
def fnExactCheckConfigUptoRow : OpenClaim := { program := "ytophaihdibplkaa", sum := "98232949e22d331e9ad2252b876feefa13208a77c6899a609d9edc484d62fc72", func := "loop.example/g00788/laws.FnExactCheckConfig", spec := "fnExactCheckConfig", unfollowed := true, recurses := true, apart := false, narrowed := true }
def FnExactCheckConfigUptoSaid : Prop := fnExactCheckConfigUptoRow.holds Try.pinned (OpenSpec.upto fnExactCheckConfigSpec)

/-- 'laws.FnExactSameConfig', WHERE WHAT IT READS IS OF BULK AT MOST 1048576: true; the input reads as it did. -/
def fnExactSameConfigUptoRow : OpenClaim := { program := "ytophaihdibplkaa", sum := "98232949e22d331e9ad2252b876feefa13208a77c6899a609d9edc484d62fc72", func := "loop.example/g00788/laws.FnExactSameConfig", spec := "fnExactSameConfig", unfollowed := true, recurses := true, apart := false, narrowed := true }
def FnExactSameConfigUptoSaid : Prop := fnExactSameConfigUptoRow.holds Try.pinned (OpenSpec.upto fnExactSameConfigSpec)

/-- 'laws.FnExactAllowsElement', WHERE WHAT IT READS IS OF BULK AT MOST 1048576: true; the input reads as it did. -/
def fnExactAllowsElementUptoRow : OpenClaim := { program := "ytophaihdibplkaa", sum := "98232949e22d331e9ad2252b876feefa13208a77c6899a609d9edc484d62fc72", func := "loop.example/g00788/laws.FnExactAllowsElement", spec := "fnExactAllowsElement", unfollowed := true, recurses := true, apart := false, narrowed := true }
def FnExactAllowsElementUptoSaid : Prop := fnExactAllowsElementUptoRow.holds Try.pinned (OpenSpec.upto fnExactAllowsElementSpec)

end Rows
end Go.Proofs.Ytophaihdibplkaa
