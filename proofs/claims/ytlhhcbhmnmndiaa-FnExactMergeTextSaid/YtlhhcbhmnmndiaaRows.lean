/-
  NARROWER THAN 'FOR EVERY INPUT', by the rows' own cells (each row's printed sentence says how): FnExactNamesIn: loops · FnExactFirstHarm: loops · FnExactMergeText: loops.
  DERIVED. THE GIVEN ROWS OF THIS SEAT. 3 by the template 'for every input the law returns true; each argument reads behind the call as it read before'; 0 by the template 'total and deterministic' (their statements: YtlhhcbhmnmndiaaTotals.lean).
  GIVEN WITH THE SEED: the statements are not yours to turn. If you find one false, say at which input.
  Laid BY PROGRAM, IN A SANDBOX (cutbox-rows.mjs): the forced cells as the released guide's own fill.sh prints them over the translation fe04bbfc86ae6194… (all of the seat's roots in one cut). By AI agents, Wed Nov 11 2026. No macro, syntax, notation, axiom, sorry.
-/
import Derived.Test.YtlhhcbhmnmndiaaChecked
import GoSem.Claim
import GoSem.ClaimJoined
import GoSem.ClaimMapViews
import Derived.JoinedTies
import Derived.KernelRfl
namespace Go.Proofs.Ytlhhcbhmnmndiaa
/- THE CELL 'sum', in the pinned program and in every row, IS THE sha256 OF THE DUMP (.gsa) THAT YtlhhcbhmnmndiaaProg.lean LOADS. Nothing in Lean hashes anything: it is a label: what it is worth is what the hold of that sum in a sandbox is worth. -/
noncomputable def Try.pinned : Pinned := { name := "ytlhhcbhmnmndiaa", sum := "fe04bbfc86ae6194ef9b4a3a65c63b992a152efa9d26aae4029ec66d561b17f9", checked := Try.checked }
namespace Rows
def none {H : Type} : Left H := { results := [], args := [] }

/-- 'laws.FnExactNamesIn': WHATEVER THE INPUT: true; the input reads as it did. -/
def fnExactNamesInSpec : ChangeSpec := { name := "fnExactNamesIn", fn := fun _ => fun
  | [d] => { results := [.lit (.bool true)], args := [d] }
  | _ => none }
def fnExactNamesInRow : OpenClaim := { program := "ytlhhcbhmnmndiaa", sum := "fe04bbfc86ae6194ef9b4a3a65c63b992a152efa9d26aae4029ec66d561b17f9", func := "loop.example/g00788/laws.FnExactNamesIn", spec := "fnExactNamesIn", unfollowed := true, recurses := true, loops := true, apart := false }
def FnExactNamesInSaid : Prop := fnExactNamesInRow.holds Try.pinned (OpenSpec.ofChange fnExactNamesInSpec)

/-- ITS FALSE NEIGHBOUR: 'it returns false'. Refute it at one input. -/
def fnExactNamesInWrong : ChangeSpec := { name := "fnExactNamesIn", fn := fun _ => fun
  | [d] => { results := [.lit (.bool false)], args := [d] }
  | _ => none }
def FnExactNamesInWrongFalsely : Prop := fnExactNamesInRow.holds Try.pinned (OpenSpec.ofChange fnExactNamesInWrong)

/-- 'laws.FnExactFirstHarm': WHATEVER THE INPUT: true; the input reads as it did. -/
def fnExactFirstHarmSpec : ChangeSpec := { name := "fnExactFirstHarm", fn := fun _ => fun
  | [d] => { results := [.lit (.bool true)], args := [d] }
  | _ => none }
def fnExactFirstHarmRow : OpenClaim := { program := "ytlhhcbhmnmndiaa", sum := "fe04bbfc86ae6194ef9b4a3a65c63b992a152efa9d26aae4029ec66d561b17f9", func := "loop.example/g00788/laws.FnExactFirstHarm", spec := "fnExactFirstHarm", unfollowed := true, recurses := true, loops := true, apart := false }
def FnExactFirstHarmSaid : Prop := fnExactFirstHarmRow.holds Try.pinned (OpenSpec.ofChange fnExactFirstHarmSpec)

/-- ITS FALSE NEIGHBOUR: 'it returns false'. Refute it at one input. -/
def fnExactFirstHarmWrong : ChangeSpec := { name := "fnExactFirstHarm", fn := fun _ => fun
  | [d] => { results := [.lit (.bool false)], args := [d] }
  | _ => none }
def FnExactFirstHarmWrongFalsely : Prop := fnExactFirstHarmRow.holds Try.pinned (OpenSpec.ofChange fnExactFirstHarmWrong)

/-- 'laws.FnExactMergeText': WHATEVER THE INPUT: true; the input reads as it did. -/
def fnExactMergeTextSpec : ChangeSpec := { name := "fnExactMergeText", fn := fun _ => fun
  | [d] => { results := [.lit (.bool true)], args := [d] }
  | _ => none }
def fnExactMergeTextRow : OpenClaim := { program := "ytlhhcbhmnmndiaa", sum := "fe04bbfc86ae6194ef9b4a3a65c63b992a152efa9d26aae4029ec66d561b17f9", func := "loop.example/g00788/laws.FnExactMergeText", spec := "fnExactMergeText", unfollowed := true, recurses := true, loops := true, apart := false }
def FnExactMergeTextSaid : Prop := fnExactMergeTextRow.holds Try.pinned (OpenSpec.ofChange fnExactMergeTextSpec)

/-- ITS FALSE NEIGHBOUR: 'it returns false'. Refute it at one input. -/
def fnExactMergeTextWrong : ChangeSpec := { name := "fnExactMergeText", fn := fun _ => fun
  | [d] => { results := [.lit (.bool false)], args := [d] }
  | _ => none }
def FnExactMergeTextWrongFalsely : Prop := fnExactMergeTextRow.holds Try.pinned (OpenSpec.ofChange fnExactMergeTextWrong)

/- THE SECOND FORM. 'bulk': how many values and letters a reading holds, each counted each time it is reached (what is shared counts as often as it is met; a slice's spare places count too). A statement '..UptoSaid' is the law's where the arguments, and the package variables that the reading takes, are together of bulk at most 1048576: NARROWER than '..Said'. Prove '..Said' where nothing that the law and all that it calls make is longer than what came in: it says more and counts as full. Else prove '..UptoSaid'. A law counts once. -/
mutual
def uptoBulk {H : Type} : DataW H → Nat
  | .lit (.string bytes) => bytes.length + 1
  | .lit _ => 1
  | .nil => 1
  | .ptr d => uptoBulk d + 1
  | .slice elems spare => uptoBulkAll elems + uptoBulkAll spare + 1
  | .agg parts => uptoBulkAll parts + 1
  | .iface _ d => uptoBulk d + 1
  | .map entries => uptoBulkEntries entries + 1
  | .held _ => 1
def uptoBulkAll {H : Type} : List (DataW H) → Nat
  | [] => 0
  | d :: r => uptoBulk d + uptoBulkAll r
def uptoBulkEntries {H : Type} : List (Lit × DataW H) → Nat
  | [] => 0
  | x :: r => uptoBulkEntry x + uptoBulkEntries r
def uptoBulkEntry {H : Type} : Lit × DataW H → Nat
  | (.string bytes, d) => bytes.length + uptoBulk d + 1
  | (_, d) => uptoBulk d + 1
 end
def uptoSmall : (H : Type) → List (DataW H) → Bool := fun _ ds => decide (uptoBulkAll ds ≤ 1048576)
def OpenSpec.upto (s : _root_.Go.ChangeSpec) : _root_.Go.OpenSpec := { _root_.Go.OpenSpec.ofChange s with cond := some uptoSmall }

/-- 'laws.FnExactNamesIn', WHERE WHAT IT READS IS OF BULK AT MOST 1048576: true; the input reads as it did. -/
def fnExactNamesInUptoRow : OpenClaim := { program := "ytlhhcbhmnmndiaa", sum := "fe04bbfc86ae6194ef9b4a3a65c63b992a152efa9d26aae4029ec66d561b17f9", func := "loop.example/g00788/laws.FnExactNamesIn", spec := "fnExactNamesIn", unfollowed := true, recurses := true, loops := true, apart := false, narrowed := true }
def FnExactNamesInUptoSaid : Prop := fnExactNamesInUptoRow.holds Try.pinned (OpenSpec.upto fnExactNamesInSpec)

/-- 'laws.FnExactFirstHarm', WHERE WHAT IT READS IS OF BULK AT MOST 1048576: true; the input reads as it did. -/
def fnExactFirstHarmUptoRow : OpenClaim := { program := "ytlhhcbhmnmndiaa", sum := "fe04bbfc86ae6194ef9b4a3a65c63b992a152efa9d26aae4029ec66d561b17f9", func := "loop.example/g00788/laws.FnExactFirstHarm", spec := "fnExactFirstHarm", unfollowed := true, recurses := true, loops := true, apart := false, narrowed := true }
def FnExactFirstHarmUptoSaid : Prop := fnExactFirstHarmUptoRow.holds Try.pinned (OpenSpec.upto fnExactFirstHarmSpec)

/-- 'laws.FnExactMergeText', WHERE WHAT IT READS IS OF BULK AT MOST 1048576: true; the input reads as it did. -/
def fnExactMergeTextUptoRow : OpenClaim := { program := "ytlhhcbhmnmndiaa", sum := "fe04bbfc86ae6194ef9b4a3a65c63b992a152efa9d26aae4029ec66d561b17f9", func := "loop.example/g00788/laws.FnExactMergeText", spec := "fnExactMergeText", unfollowed := true, recurses := true, loops := true, apart := false, narrowed := true }
def FnExactMergeTextUptoSaid : Prop := fnExactMergeTextUptoRow.holds Try.pinned (OpenSpec.upto fnExactMergeTextSpec)

end Rows
end Go.Proofs.Ytlhhcbhmnmndiaa
