/-
  No cell of these rows narrows 'for every input' (looked for: loops, veiled, ifaces, maps, wideKeys, modest, calm, conditions, laid).
  DERIVED. THE GIVEN ROWS OF THIS SEAT. 3 by the template 'for every input the law returns true; each argument reads behind the call as it read before'; 0 by the template 'total and deterministic' (their statements: YtmeafbneklphnaaTotals.lean).
  GIVEN WITH THE SEED: the statements are not yours to turn. If you find one false, say at which input.
  Laid BY PROGRAM, IN A SANDBOX (cutbox-rows.mjs): the forced cells as the released guide's own fill.sh prints them over the translation 06b9a8a844e45cfc… (all of the seat's roots in one cut). By AI agents, Wed Nov 11 2026. No macro, syntax, notation, axiom, sorry.
-/
import Derived.Test.YtmeafbneklphnaaChecked
import GoSem.Claim
import GoSem.ClaimJoined
import GoSem.ClaimMapViews
import Derived.JoinedTies
import Derived.KernelRfl
namespace Go.Proofs.Ytmeafbneklphnaa
/- THE CELL 'sum', in the pinned program and in every row, IS THE sha256 OF THE DUMP (.gsa) THAT YtmeafbneklphnaaProg.lean LOADS. Nothing in Lean hashes anything: it is a label: what it is worth is what the hold of that sum in a sandbox is worth. -/
noncomputable def Try.pinned : Pinned := { name := "ytmeafbneklphnaa", sum := "06b9a8a844e45cfcd8c1df048b35ee48bf10cefcce22de050e7e4f9eeb56e72b", checked := Try.checked }
namespace Rows
def none {H : Type} : Left H := { results := [], args := [] }

/-- 'laws.FnExactDefaultConfig': WHATEVER THE INPUT: true; the input reads as it did. -/
def fnExactDefaultConfigSpec : ChangeSpec := { name := "fnExactDefaultConfig", fn := fun _ => fun
  | [] => { results := [.lit (.bool true)], args := [] }
  | _ => none }
def fnExactDefaultConfigRow : OpenClaim := { program := "ytmeafbneklphnaa", sum := "06b9a8a844e45cfcd8c1df048b35ee48bf10cefcce22de050e7e4f9eeb56e72b", func := "loop.example/g00788/laws.FnExactDefaultConfig", spec := "fnExactDefaultConfig", apart := false }
def FnExactDefaultConfigSaid : Prop := fnExactDefaultConfigRow.holds Try.pinned (OpenSpec.ofChange fnExactDefaultConfigSpec)

/-- ITS FALSE NEIGHBOUR: 'it returns false'. Refute it at one input. -/
def fnExactDefaultConfigWrong : ChangeSpec := { name := "fnExactDefaultConfig", fn := fun _ => fun
  | [] => { results := [.lit (.bool false)], args := [] }
  | _ => none }
def FnExactDefaultConfigWrongFalsely : Prop := fnExactDefaultConfigRow.holds Try.pinned (OpenSpec.ofChange fnExactDefaultConfigWrong)

/-- 'laws.FnImplied': WHATEVER THE INPUT: true; the input reads as it did. -/
def fnImpliedSpec : ChangeSpec := { name := "fnImplied", fn := fun _ => fun
  | [d1, d2] => { results := [.lit (.bool true)], args := [d1, d2] }
  | _ => none }
def fnImpliedRow : OpenClaim := { program := "ytmeafbneklphnaa", sum := "06b9a8a844e45cfcd8c1df048b35ee48bf10cefcce22de050e7e4f9eeb56e72b", func := "loop.example/g00788/laws.FnImplied", spec := "fnImplied", unfollowed := true, recurses := true, apart := false }
def FnImpliedSaid : Prop := fnImpliedRow.holds Try.pinned (OpenSpec.ofChange fnImpliedSpec)

/-- ITS FALSE NEIGHBOUR: 'it returns false'. Refute it at one input. -/
def fnImpliedWrong : ChangeSpec := { name := "fnImplied", fn := fun _ => fun
  | [d1, d2] => { results := [.lit (.bool false)], args := [d1, d2] }
  | _ => none }
def FnImpliedWrongFalsely : Prop := fnImpliedRow.holds Try.pinned (OpenSpec.ofChange fnImpliedWrong)

/-- 'laws.FnExactAllowsAttr': WHATEVER THE INPUT: true; the input reads as it did. -/
def fnExactAllowsAttrSpec : ChangeSpec := { name := "fnExactAllowsAttr", fn := fun _ => fun
  | [d1, d2, d3, d4] => { results := [.lit (.bool true)], args := [d1, d2, d3, d4] }
  | _ => none }
def fnExactAllowsAttrRow : OpenClaim := { program := "ytmeafbneklphnaa", sum := "06b9a8a844e45cfcd8c1df048b35ee48bf10cefcce22de050e7e4f9eeb56e72b", func := "loop.example/g00788/laws.FnExactAllowsAttr", spec := "fnExactAllowsAttr", unfollowed := true, recurses := true, apart := false }
def FnExactAllowsAttrSaid : Prop := fnExactAllowsAttrRow.holds Try.pinned (OpenSpec.ofChange fnExactAllowsAttrSpec)

/-- ITS FALSE NEIGHBOUR: 'it returns false'. Refute it at one input. -/
def fnExactAllowsAttrWrong : ChangeSpec := { name := "fnExactAllowsAttr", fn := fun _ => fun
  | [d1, d2, d3, d4] => { results := [.lit (.bool false)], args := [d1, d2, d3, d4] }
  | _ => none }
def FnExactAllowsAttrWrongFalsely : Prop := fnExactAllowsAttrRow.holds Try.pinned (OpenSpec.ofChange fnExactAllowsAttrWrong)

/- THE SECOND FORM. 'bulk': how many values and letters a reading holds, each counted each time it is reached (what is shared counts as often as it is met; a slice's spare places count too). A statement '..UptoSaid' is the law's where the arguments, and the package variables that the reading takes, are together of bulk at most 1048576: NARROWER than '..Said'. Prove '..Said' where nothing that the law and all that it calls make is longer than what came in: it says more and counts as full. Else prove '..UptoSaid'. A law counts once. -/
mutual
def uptoBulk {H : Type} : DataW H → Nat
  | .lit (.string bytes) => bytes.length + 1
  | .lit _ => 1
  | .nil => 1
  | .ptr d => uptoBulk d + 1
  | .slice elems spare => uptoBulkAll elems + uptoBulkAll spare + 1
  | .agg parts => uptoBulkAll parts + 1
  | .iface _ d => uptoBulk d + 1
  | .map entries => uptoBulkEntries entries + 1
  | .held _ => 1
def uptoBulkAll {H : Type} : List (DataW H) → Nat
  | [] => 0
  | d :: r => uptoBulk d + uptoBulkAll r
def uptoBulkEntries {H : Type} : List (Lit × DataW H) → Nat
  | [] => 0
  | x :: r => uptoBulkEntry x + uptoBulkEntries r
def uptoBulkEntry {H : Type} : Lit × DataW H → Nat
  | (.string bytes, d) => bytes.length + uptoBulk d + 1
  | (_, d) => uptoBulk d + 1
 end
def uptoSmall : (H : Type) → List (DataW H) → Bool := fun _ ds => decide (uptoBulkAll ds ≤ 1048576)
def OpenSpec.upto (s : _root_.Go.ChangeSpec) : _root_.Go.OpenSpec := { _root_.Go.OpenSpec.ofChange s with cond := some uptoSmall }

/-- 'laws.FnExactDefaultConfig', WHERE WHAT IT READS IS OF BULK AT MOST 1048576: true; the input reads as it did. -/
def fnExactDefaultConfigUptoRow : OpenClaim := { program := "ytmeafbneklphnaa", sum := "06b9a8a844e45cfcd8c1df048b35ee48bf10cefcce22de050e7e4f9eeb56e72b", func := "loop.example/g00788/laws.FnExactDefaultConfig", spec := "fnExactDefaultConfig", apart := false, narrowed := true }
def FnExactDefaultConfigUptoSaid : Prop := fnExactDefaultConfigUptoRow.holds Try.pinned (OpenSpec.upto fnExactDefaultConfigSpec)

/-- 'laws.FnImplied', WHERE WHAT IT READS IS OF BULK AT MOST 1048576: true; the input reads as it did. -/
def fnImpliedUptoRow : OpenClaim := { program := "ytmeafbneklphnaa", sum := "06b9a8a844e45cfcd8c1df048b35ee48bf10cefcce22de050e7e4f9eeb56e72b", func := "loop.example/g00788/laws.FnImplied", spec := "fnImplied", unfollowed := true, recurses := true, apart := false, narrowed := true }
def FnImpliedUptoSaid : Prop := fnImpliedUptoRow.holds Try.pinned (OpenSpec.upto fnImpliedSpec)

/-- 'laws.FnExactAllowsAttr', WHERE WHAT IT READS IS OF BULK AT MOST 1048576: true; the input reads as it did. -/
def fnExactAllowsAttrUptoRow : OpenClaim := { program := "ytmeafbneklphnaa", sum := "06b9a8a844e45cfcd8c1df048b35ee48bf10cefcce22de050e7e4f9eeb56e72b", func := "loop.example/g00788/laws.FnExactAllowsAttr", spec := "fnExactAllowsAttr", unfollowed := true, recurses := true, apart := false, narrowed := true }
def FnExactAllowsAttrUptoSaid : Prop := fnExactAllowsAttrUptoRow.holds Try.pinned (OpenSpec.upto fnExactAllowsAttrSpec)

end Rows
end Go.Proofs.Ytmeafbneklphnaa
