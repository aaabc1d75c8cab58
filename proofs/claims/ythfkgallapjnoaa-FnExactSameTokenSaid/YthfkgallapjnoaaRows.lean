/-
  No cell of these rows narrows 'for every input' (looked for: loops, veiled, ifaces, maps, wideKeys, modest, calm, conditions, laid).
  DERIVED. THE GIVEN ROWS OF THIS SEAT. 12 by the template 'for every input the law returns true; each argument reads behind the call as it read before'; 0 by the template 'total and deterministic' (their statements: YthfkgallapjnoaaTotals.lean).
  GIVEN WITH THE SEED: the statements are not yours to turn. If you find one false, say at which input.
  Laid BY PROGRAM, IN A SANDBOX (cutbox-rows.mjs): the forced cells as the released guide's own fill.sh prints them over the translation 30507014e71f4443… (all of the seat's roots in one cut). By AI agents, Wed Nov 11 2026. No macro, syntax, notation, axiom, sorry.
-/
import Derived.Test.YthfkgallapjnoaaChecked
import GoSem.Claim
import GoSem.ClaimJoined
import GoSem.ClaimMapViews
import Derived.JoinedTies
import Derived.KernelRfl
namespace Go.Proofs.Ythfkgallapjnoaa
/- THE CELL 'sum', in the pinned program and in every row, IS THE sha256 OF THE DUMP (.gsa) THAT YthfkgallapjnoaaProg.lean LOADS. Nothing in Lean hashes anything: it is a label: what it is worth is what the hold of that sum in a sandbox is worth. -/
noncomputable def Try.pinned : Pinned := { name := "ythfkgallapjnoaa", sum := "30507014e71f4443af8e97ca462f3642ecce766a7c4207eeb35fb2f06d068c40", checked := Try.checked }
namespace Rows
def none {H : Type} : Left H := { results := [], args := [] }

/-- 'laws.FnExactIsHandler': WHATEVER THE INPUT: true; the input reads as it did. -/
def fnExactIsHandlerSpec : ChangeSpec := { name := "fnExactIsHandler", fn := fun _ => fun
  | [d] => { results := [.lit (.bool true)], args := [d] }
  | _ => none }
def fnExactIsHandlerRow : OpenClaim := { program := "ythfkgallapjnoaa", sum := "30507014e71f4443af8e97ca462f3642ecce766a7c4207eeb35fb2f06d068c40", func := "loop.example/g00788/laws.FnExactIsHandler", spec := "fnExactIsHandler", unfollowed := true, recurses := true, apart := false }
def FnExactIsHandlerSaid : Prop := fnExactIsHandlerRow.holds Try.pinned (OpenSpec.ofChange fnExactIsHandlerSpec)

/-- ITS FALSE NEIGHBOUR: 'it returns false'. Refute it at one input. -/
def fnExactIsHandlerWrong : ChangeSpec := { name := "fnExactIsHandler", fn := fun _ => fun
  | [d] => { results := [.lit (.bool false)], args := [d] }
  | _ => none }
def FnExactIsHandlerWrongFalsely : Prop := fnExactIsHandlerRow.holds Try.pinned (OpenSpec.ofChange fnExactIsHandlerWrong)

/-- 'laws.FnExactBreaksOut': WHATEVER THE INPUT: true; the input reads as it did. -/
def fnExactBreaksOutSpec : ChangeSpec := { name := "fnExactBreaksOut", fn := fun _ => fun
  | [d] => { results := [.lit (.bool true)], args := [d] }
  | _ => none }
def fnExactBreaksOutRow : OpenClaim := { program := "ythfkgallapjnoaa", sum := "30507014e71f4443af8e97ca462f3642ecce766a7c4207eeb35fb2f06d068c40", func := "loop.example/g00788/laws.FnExactBreaksOut", spec := "fnExactBreaksOut", apart := false }
def FnExactBreaksOutSaid : Prop := fnExactBreaksOutRow.holds Try.pinned (OpenSpec.ofChange fnExactBreaksOutSpec)

/-- ITS FALSE NEIGHBOUR: 'it returns false'. Refute it at one input. -/
def fnExactBreaksOutWrong : ChangeSpec := { name := "fnExactBreaksOut", fn := fun _ => fun
  | [d] => { results := [.lit (.bool false)], args := [d] }
  | _ => none }
def FnExactBreaksOutWrongFalsely : Prop := fnExactBreaksOutRow.holds Try.pinned (OpenSpec.ofChange fnExactBreaksOutWrong)

/-- 'laws.FnExactIsBanned': WHATEVER THE INPUT: true; the input reads as it did. -/
def fnExactIsBannedSpec : ChangeSpec := { name := "fnExactIsBanned", fn := fun _ => fun
  | [d] => { results := [.lit (.bool true)], args := [d] }
  | _ => none }
def fnExactIsBannedRow : OpenClaim := { program := "ythfkgallapjnoaa", sum := "30507014e71f4443af8e97ca462f3642ecce766a7c4207eeb35fb2f06d068c40", func := "loop.example/g00788/laws.FnExactIsBanned", spec := "fnExactIsBanned", apart := false }
def FnExactIsBannedSaid : Prop := fnExactIsBannedRow.holds Try.pinned (OpenSpec.ofChange fnExactIsBannedSpec)

/-- ITS FALSE NEIGHBOUR: 'it returns false'. Refute it at one input. -/
def fnExactIsBannedWrong : ChangeSpec := { name := "fnExactIsBanned", fn := fun _ => fun
  | [d] => { results := [.lit (.bool false)], args := [d] }
  | _ => none }
def FnExactIsBannedWrongFalsely : Prop := fnExactIsBannedRow.holds Try.pinned (OpenSpec.ofChange fnExactIsBannedWrong)

/-- 'laws.FnExactIsLink': WHATEVER THE INPUT: true; the input reads as it did. -/
def fnExactIsLinkSpec : ChangeSpec := { name := "fnExactIsLink", fn := fun _ => fun
  | [d] => { results := [.lit (.bool true)], args := [d] }
  | _ => none }
def fnExactIsLinkRow : OpenClaim := { program := "ythfkgallapjnoaa", sum := "30507014e71f4443af8e97ca462f3642ecce766a7c4207eeb35fb2f06d068c40", func := "loop.example/g00788/laws.FnExactIsLink", spec := "fnExactIsLink", apart := false }
def FnExactIsLinkSaid : Prop := fnExactIsLinkRow.holds Try.pinned (OpenSpec.ofChange fnExactIsLinkSpec)

/-- ITS FALSE NEIGHBOUR: 'it returns false'. Refute it at one input. -/
def fnExactIsLinkWrong : ChangeSpec := { name := "fnExactIsLink", fn := fun _ => fun
  | [d] => { results := [.lit (.bool false)], args := [d] }
  | _ => none }
def FnExactIsLinkWrongFalsely : Prop := fnExactIsLinkRow.holds Try.pinned (OpenSpec.ofChange fnExactIsLinkWrong)

/-- 'laws.FnExactIsVoid': WHATEVER THE INPUT: true; the input reads as it did. -/
def fnExactIsVoidSpec : ChangeSpec := { name := "fnExactIsVoid", fn := fun _ => fun
  | [d] => { results := [.lit (.bool true)], args := [d] }
  | _ => none }
def fnExactIsVoidRow : OpenClaim := { program := "ythfkgallapjnoaa", sum := "30507014e71f4443af8e97ca462f3642ecce766a7c4207eeb35fb2f06d068c40", func := "loop.example/g00788/laws.FnExactIsVoid", spec := "fnExactIsVoid", apart := false }
def FnExactIsVoidSaid : Prop := fnExactIsVoidRow.holds Try.pinned (OpenSpec.ofChange fnExactIsVoidSpec)

/-- ITS FALSE NEIGHBOUR: 'it returns false'. Refute it at one input. -/
def fnExactIsVoidWrong : ChangeSpec := { name := "fnExactIsVoid", fn := fun _ => fun
  | [d] => { results := [.lit (.bool false)], args := [d] }
  | _ => none }
def FnExactIsVoidWrongFalsely : Prop := fnExactIsVoidRow.holds Try.pinned (OpenSpec.ofChange fnExactIsVoidWrong)

/-- 'laws.FnExactTagOK': WHATEVER THE INPUT: true; the input reads as it did. -/
def fnExactTagOKSpec : ChangeSpec := { name := "fnExactTagOK", fn := fun _ => fun
  | [d] => { results := [.lit (.bool true)], args := [d] }
  | _ => none }
def fnExactTagOKRow : OpenClaim := { program := "ythfkgallapjnoaa", sum := "30507014e71f4443af8e97ca462f3642ecce766a7c4207eeb35fb2f06d068c40", func := "loop.example/g00788/laws.FnExactTagOK", spec := "fnExactTagOK", apart := false }
def FnExactTagOKSaid : Prop := fnExactTagOKRow.holds Try.pinned (OpenSpec.ofChange fnExactTagOKSpec)

/-- ITS FALSE NEIGHBOUR: 'it returns false'. Refute it at one input. -/
def fnExactTagOKWrong : ChangeSpec := { name := "fnExactTagOK", fn := fun _ => fun
  | [d] => { results := [.lit (.bool false)], args := [d] }
  | _ => none }
def FnExactTagOKWrongFalsely : Prop := fnExactTagOKRow.holds Try.pinned (OpenSpec.ofChange fnExactTagOKWrong)

/-- 'laws.FnExactLowerOf': WHATEVER THE INPUT: true; the input reads as it did. -/
def fnExactLowerOfSpec : ChangeSpec := { name := "fnExactLowerOf", fn := fun _ => fun
  | [d] => { results := [.lit (.bool true)], args := [d] }
  | _ => none }
def fnExactLowerOfRow : OpenClaim := { program := "ythfkgallapjnoaa", sum := "30507014e71f4443af8e97ca462f3642ecce766a7c4207eeb35fb2f06d068c40", func := "loop.example/g00788/laws.FnExactLowerOf", spec := "fnExactLowerOf", unfollowed := true, recurses := true, apart := false }
def FnExactLowerOfSaid : Prop := fnExactLowerOfRow.holds Try.pinned (OpenSpec.ofChange fnExactLowerOfSpec)

/-- ITS FALSE NEIGHBOUR: 'it returns false'. Refute it at one input. -/
def fnExactLowerOfWrong : ChangeSpec := { name := "fnExactLowerOf", fn := fun _ => fun
  | [d] => { results := [.lit (.bool false)], args := [d] }
  | _ => none }
def FnExactLowerOfWrongFalsely : Prop := fnExactLowerOfRow.holds Try.pinned (OpenSpec.ofChange fnExactLowerOfWrong)

/-- 'laws.FnExactBadLink': WHATEVER THE INPUT: true; the input reads as it did. -/
def fnExactBadLinkSpec : ChangeSpec := { name := "fnExactBadLink", fn := fun _ => fun
  | [d] => { results := [.lit (.bool true)], args := [d] }
  | _ => none }
def fnExactBadLinkRow : OpenClaim := { program := "ythfkgallapjnoaa", sum := "30507014e71f4443af8e97ca462f3642ecce766a7c4207eeb35fb2f06d068c40", func := "loop.example/g00788/laws.FnExactBadLink", spec := "fnExactBadLink", unfollowed := true, recurses := true, apart := false }
def FnExactBadLinkSaid : Prop := fnExactBadLinkRow.holds Try.pinned (OpenSpec.ofChange fnExactBadLinkSpec)

/-- ITS FALSE NEIGHBOUR: 'it returns false'. Refute it at one input. -/
def fnExactBadLinkWrong : ChangeSpec := { name := "fnExactBadLink", fn := fun _ => fun
  | [d] => { results := [.lit (.bool false)], args := [d] }
  | _ => none }
def FnExactBadLinkWrongFalsely : Prop := fnExactBadLinkRow.holds Try.pinned (OpenSpec.ofChange fnExactBadLinkWrong)

/-- 'laws.FnLinks': WHATEVER THE INPUT: true; the input reads as it did. -/
def fnLinksSpec : ChangeSpec := { name := "fnLinks", fn := fun _ => fun
  | [d1, d2] => { results := [.lit (.bool true)], args := [d1, d2] }
  | _ => none }
def fnLinksRow : OpenClaim := { program := "ythfkgallapjnoaa", sum := "30507014e71f4443af8e97ca462f3642ecce766a7c4207eeb35fb2f06d068c40", func := "loop.example/g00788/laws.FnLinks", spec := "fnLinks", unfollowed := true, recurses := true, apart := false }
def FnLinksSaid : Prop := fnLinksRow.holds Try.pinned (OpenSpec.ofChange fnLinksSpec)

/-- ITS FALSE NEIGHBOUR: 'it returns false'. Refute it at one input. -/
def fnLinksWrong : ChangeSpec := { name := "fnLinks", fn := fun _ => fun
  | [d1, d2] => { results := [.lit (.bool false)], args := [d1, d2] }
  | _ => none }
def FnLinksWrongFalsely : Prop := fnLinksRow.holds Try.pinned (OpenSpec.ofChange fnLinksWrong)

/-- 'laws.FnExactHasMarkup': WHATEVER THE INPUT: true; the input reads as it did. -/
def fnExactHasMarkupSpec : ChangeSpec := { name := "fnExactHasMarkup", fn := fun _ => fun
  | [d] => { results := [.lit (.bool true)], args := [d] }
  | _ => none }
def fnExactHasMarkupRow : OpenClaim := { program := "ythfkgallapjnoaa", sum := "30507014e71f4443af8e97ca462f3642ecce766a7c4207eeb35fb2f06d068c40", func := "loop.example/g00788/laws.FnExactHasMarkup", spec := "fnExactHasMarkup", inPlace := ["internal/bytealg.IndexByteString", "internal/bytealg.IndexString"], unfollowed := true, recurses := true, named := ["internal/bytealg.MaxLen"], apart := false }
def FnExactHasMarkupSaid : Prop := fnExactHasMarkupRow.holds Try.pinned (OpenSpec.ofChange fnExactHasMarkupSpec)

/-- ITS FALSE NEIGHBOUR: 'it returns false'. Refute it at one input. -/
def fnExactHasMarkupWrong : ChangeSpec := { name := "fnExactHasMarkup", fn := fun _ => fun
  | [d] => { results := [.lit (.bool false)], args := [d] }
  | _ => none }
def FnExactHasMarkupWrongFalsely : Prop := fnExactHasMarkupRow.holds Try.pinned (OpenSpec.ofChange fnExactHasMarkupWrong)

/-- 'laws.FnExactRuleOK': WHATEVER THE INPUT: true; the input reads as it did. -/
def fnExactRuleOKSpec : ChangeSpec := { name := "fnExactRuleOK", fn := fun _ => fun
  | [d] => { results := [.lit (.bool true)], args := [d] }
  | _ => none }
def fnExactRuleOKRow : OpenClaim := { program := "ythfkgallapjnoaa", sum := "30507014e71f4443af8e97ca462f3642ecce766a7c4207eeb35fb2f06d068c40", func := "loop.example/g00788/laws.FnExactRuleOK", spec := "fnExactRuleOK", apart := false }
def FnExactRuleOKSaid : Prop := fnExactRuleOKRow.holds Try.pinned (OpenSpec.ofChange fnExactRuleOKSpec)

/-- ITS FALSE NEIGHBOUR: 'it returns false'. Refute it at one input. -/
def fnExactRuleOKWrong : ChangeSpec := { name := "fnExactRuleOK", fn := fun _ => fun
  | [d] => { results := [.lit (.bool false)], args := [d] }
  | _ => none }
def FnExactRuleOKWrongFalsely : Prop := fnExactRuleOKRow.holds Try.pinned (OpenSpec.ofChange fnExactRuleOKWrong)

/-- 'laws.FnExactSameToken': WHATEVER THE INPUT: true; the input reads as it did. -/
def fnExactSameTokenSpec : ChangeSpec := { name := "fnExactSameToken", fn := fun _ => fun
  | [d1, d2] => { results := [.lit (.bool true)], args := [d1, d2] }
  | _ => none }
def fnExactSameTokenRow : OpenClaim := { program := "ythfkgallapjnoaa", sum := "30507014e71f4443af8e97ca462f3642ecce766a7c4207eeb35fb2f06d068c40", func := "loop.example/g00788/laws.FnExactSameToken", spec := "fnExactSameToken", apart := false }
def FnExactSameTokenSaid : Prop := fnExactSameTokenRow.holds Try.pinned (OpenSpec.ofChange fnExactSameTokenSpec)

/-- ITS FALSE NEIGHBOUR: 'it returns false'. Refute it at one input. -/
def fnExactSameTokenWrong : ChangeSpec := { name := "fnExactSameToken", fn := fun _ => fun
  | [d1, d2] => { results := [.lit (.bool false)], args := [d1, d2] }
  | _ => none }
def FnExactSameTokenWrongFalsely : Prop := fnExactSameTokenRow.holds Try.pinned (OpenSpec.ofChange fnExactSameTokenWrong)

/- THE SECOND FORM. 'bulk': how many values and letters a reading holds, each counted each time it is reached (what is shared counts as often as it is met; a slice's spare places count too). A statement '..UptoSaid' is the law's where the arguments, and the package variables that the reading takes, are together of bulk at most 1048576: NARROWER than '..Said'. Prove '..Said' where nothing that the law and all that it calls make is longer than what came in: it says more and counts as full. Else prove '..UptoSaid'. A law counts once. -/
mutual
def uptoBulk {H : Type} : DataW H → Nat
  | .lit (.string bytes) => bytes.length + 1
  | .lit _ => 1
  | .nil => 1
  | .ptr d => uptoBulk d + 1
  | .slice elems spare => uptoBulkAll elems + uptoBulkAll spare + 1
  | .agg parts => uptoBulkAll parts + 1
  | .iface _ d => uptoBulk d + 1
  | .map entries => uptoBulkEntries entries + 1
  | .held _ => 1
def uptoBulkAll {H : Type} : List (DataW H) → Nat
  | [] => 0
  | d :: r => uptoBulk d + uptoBulkAll r
def uptoBulkEntries {H : Type} : List (Lit × DataW H) → Nat
  | [] => 0
  | x :: r => uptoBulkEntry x + uptoBulkEntries r
def uptoBulkEntry {H : Type} : Lit × DataW H → Nat
  | (.string bytes, d) => bytes.length + uptoBulk d + 1
  | (_, d) => uptoBulk d + 1
 end
def uptoSmall : (H : Type) → List (DataW H) → Bool := fun _ ds => decide (uptoBulkAll ds ≤ 1048576)
def OpenSpec.upto (s : _root_.Go.ChangeSpec) : _root_.Go.OpenSpec := { _root_.Go.OpenSpec.ofChange s with cond := some uptoSmall }

/-- 'laws.FnExactIsHandler', WHERE WHAT IT READS IS OF BULK AT MOST 1048576: true; the input reads as it did. -/
def fnExactIsHandlerUptoRow : OpenClaim := { program := "ythfkgallapjnoaa", sum := "30507014e71f4443af8e97ca462f3642ecce766a7c4207eeb35fb2f06d068c40", func := "loop.example/g00788/laws.FnExactIsHandler", spec := "fnExactIsHandler", unfollowed := true, recurses := true, apart := false, narrowed := true }
def FnExactIsHandlerUptoSaid : Prop := fnExactIsHandlerUptoRow.holds Try.pinned (OpenSpec.upto fnExactIsHandlerSpec)

/-- 'laws.FnExactBreaksOut', WHERE WHAT IT READS IS OF BULK AT MOST 1048576: true; the input reads as it did. -/
def fnExactBreaksOutUptoRow : OpenClaim := { program := "ythfkgallapjnoaa", sum := "30507014e71f4443af8e97ca462f3642ecce766a7c4207eeb35fb2f06d068c40", func := "loop.example/g00788/laws.FnExactBreaksOut", spec := "fnExactBreaksOut", apart := false, narrowed := true }
def FnExactBreaksOutUptoSaid : Prop := fnExactBreaksOutUptoRow.holds Try.pinned (OpenSpec.upto fnExactBreaksOutSpec)

/-- 'laws.FnExactIsBanned', WHERE WHAT IT READS IS OF BULK AT MOST 1048576: true; the input reads as it did. -/
def fnExactIsBannedUptoRow : OpenClaim := { program := "ythfkgallapjnoaa", sum := "30507014e71f4443af8e97ca462f3642ecce766a7c4207eeb35fb2f06d068c40", func := "loop.example/g00788/laws.FnExactIsBanned", spec := "fnExactIsBanned", apart := false, narrowed := true }
def FnExactIsBannedUptoSaid : Prop := fnExactIsBannedUptoRow.holds Try.pinned (OpenSpec.upto fnExactIsBannedSpec)

/-- 'laws.FnExactIsLink', WHERE WHAT IT READS IS OF BULK AT MOST 1048576: true; the input reads as it did. -/
def fnExactIsLinkUptoRow : OpenClaim := { program := "ythfkgallapjnoaa", sum := "30507014e71f4443af8e97ca462f3642ecce766a7c4207eeb35fb2f06d068c40", func := "loop.example/g00788/laws.FnExactIsLink", spec := "fnExactIsLink", apart := false, narrowed := true }
def FnExactIsLinkUptoSaid : Prop := fnExactIsLinkUptoRow.holds Try.pinned (OpenSpec.upto fnExactIsLinkSpec)

/-- 'laws.FnExactIsVoid', WHERE WHAT IT READS IS OF BULK AT MOST 1048576: true; the input reads as it did. -/
def fnExactIsVoidUptoRow : OpenClaim := { program := "ythfkgallapjnoaa", sum := "30507014e71f4443af8e97ca462f3642ecce766a7c4207eeb35fb2f06d068c40", func := "loop.example/g00788/laws.FnExactIsVoid", spec := "fnExactIsVoid", apart := false, narrowed := true }
def FnExactIsVoidUptoSaid : Prop := fnExactIsVoidUptoRow.holds Try.pinned (OpenSpec.upto fnExactIsVoidSpec)

/-- 'laws.FnExactTagOK', WHERE WHAT IT READS IS OF BULK AT MOST 1048576: true; the input reads as it did. -/
def fnExactTagOKUptoRow : OpenClaim := { program := "ythfkgallapjnoaa", sum := "30507014e71f4443af8e97ca462f3642ecce766a7c4207eeb35fb2f06d068c40", func := "loop.example/g00788/laws.FnExactTagOK", spec := "fnExactTagOK", apart := false, narrowed := true }
def FnExactTagOKUptoSaid : Prop := fnExactTagOKUptoRow.holds Try.pinned (OpenSpec.upto fnExactTagOKSpec)

/-- 'laws.FnExactLowerOf', WHERE WHAT IT READS IS OF BULK AT MOST 1048576: true; the input reads as it did. -/
def fnExactLowerOfUptoRow : OpenClaim := { program := "ythfkgallapjnoaa", sum := "30507014e71f4443af8e97ca462f3642ecce766a7c4207eeb35fb2f06d068c40", func := "loop.example/g00788/laws.FnExactLowerOf", spec := "fnExactLowerOf", unfollowed := true, recurses := true, apart := false, narrowed := true }
def FnExactLowerOfUptoSaid : Prop := fnExactLowerOfUptoRow.holds Try.pinned (OpenSpec.upto fnExactLowerOfSpec)

/-- 'laws.FnExactBadLink', WHERE WHAT IT READS IS OF BULK AT MOST 1048576: true; the input reads as it did. -/
def fnExactBadLinkUptoRow : OpenClaim := { program := "ythfkgallapjnoaa", sum := "30507014e71f4443af8e97ca462f3642ecce766a7c4207eeb35fb2f06d068c40", func := "loop.example/g00788/laws.FnExactBadLink", spec := "fnExactBadLink", unfollowed := true, recurses := true, apart := false, narrowed := true }
def FnExactBadLinkUptoSaid : Prop := fnExactBadLinkUptoRow.holds Try.pinned (OpenSpec.upto fnExactBadLinkSpec)

/-- 'laws.FnLinks', WHERE WHAT IT READS IS OF BULK AT MOST 1048576: true; the input reads as it did. -/
def fnLinksUptoRow : OpenClaim := { program := "ythfkgallapjnoaa", sum := "30507014e71f4443af8e97ca462f3642ecce766a7c4207eeb35fb2f06d068c40", func := "loop.example/g00788/laws.FnLinks", spec := "fnLinks", unfollowed := true, recurses := true, apart := false, narrowed := true }
def FnLinksUptoSaid : Prop := fnLinksUptoRow.holds Try.pinned (OpenSpec.upto fnLinksSpec)

/-- 'laws.FnExactHasMarkup', WHERE WHAT IT READS IS OF BULK AT MOST 1048576: true; the input reads as it did. -/
def fnExactHasMarkupUptoRow : OpenClaim := { program := "ythfkgallapjnoaa", sum := "30507014e71f4443af8e97ca462f3642ecce766a7c4207eeb35fb2f06d068c40", func := "loop.example/g00788/laws.FnExactHasMarkup", spec := "fnExactHasMarkup", inPlace := ["internal/bytealg.IndexByteString", "internal/bytealg.IndexString"], unfollowed := true, recurses := true, named := ["internal/bytealg.MaxLen"], apart := false, narrowed := true }
def FnExactHasMarkupUptoSaid : Prop := fnExactHasMarkupUptoRow.holds Try.pinned (OpenSpec.upto fnExactHasMarkupSpec)

/-- 'laws.FnExactRuleOK', WHERE WHAT IT READS IS OF BULK AT MOST 1048576: true; the input reads as it did. -/
def fnExactRuleOKUptoRow : OpenClaim := { program := "ythfkgallapjnoaa", sum := "30507014e71f4443af8e97ca462f3642ecce766a7c4207eeb35fb2f06d068c40", func := "loop.example/g00788/laws.FnExactRuleOK", spec := "fnExactRuleOK", apart := false, narrowed := true }
def FnExactRuleOKUptoSaid : Prop := fnExactRuleOKUptoRow.holds Try.pinned (OpenSpec.upto fnExactRuleOKSpec)

/-- 'laws.FnExactSameToken', WHERE WHAT IT READS IS OF BULK AT MOST 1048576: true; the input reads as it did. -/
def fnExactSameTokenUptoRow : OpenClaim := { program := "ythfkgallapjnoaa", sum := "30507014e71f4443af8e97ca462f3642ecce766a7c4207eeb35fb2f06d068c40", func := "loop.example/g00788/laws.FnExactSameToken", spec := "fnExactSameToken", apart := false, narrowed := true }
def FnExactSameTokenUptoSaid : Prop := fnExactSameTokenUptoRow.holds Try.pinned (OpenSpec.upto fnExactSameTokenSpec)

end Rows
end Go.Proofs.Ythfkgallapjnoaa
