/-
  DERIVED. GIVEN WITH THE SEED: THE CARDS: each row of YtfkanlbmgbkniaaGreatDoorRows.lean that lists a variable, with what it lists TIED to the program's text (the seventh form; the later family's looks); each row that meets fmt, with fmt's text TOLD by the authors' own Lean function (tested against real Go, not proved from fmt's source: count such statements apart). THE CARD IS WHAT COUNTS. Prove the row's statement (the work); the ties are given (YtfkanlbmgbkniaaGreatDoorTie.lean); close each card by the builder's one call (the guide's Derived/Test/ToyasCard.lean, 'card_holds'). Laid BY PROGRAM, IN A SANDBOX (cutbox-door.mjs). By AI agents, Wed Nov 11 2026. No macro, syntax, notation, axiom, sorry.
-/
import Derived.Test.YtfkanlbmgbkniaaGreatDoorRows
import GoSem.ClaimSeven
namespace Go.Proofs.YtfkanlbmgbkniaaGreatDoor
namespace Rows

/-- THE TIED CARD OF 'laws.FnExactNextToken'. -/
def fnExactNextTokenCard : Claim7 := { stood := { row := fnExactNextTokenRow, standIns := [], harness := (true, "12cdfa8cf064255f13b00afe735d8313de717f9fd6fbf37634cef2a0de1d06ca"), looks := true }, kinds := [], alts := [], laidByText := true, laidKinds := [.data, .data, .data, .sentinel, .sentinel], laidTests := true, laidLooks := .later }
def FnExactNextTokenCardSaid : Prop := Claim7.holds Tryz.pinned (.plain (OpenSpec.ofChange fnExactNextTokenSpec)) fnExactNextTokenCard

/-- THE TIED CARD OF 'laws.FnExactTokensOf'. -/
def fnExactTokensOfCard : Claim7 := { stood := { row := fnExactTokensOfRow, standIns := [], harness := (true, "12cdfa8cf064255f13b00afe735d8313de717f9fd6fbf37634cef2a0de1d06ca"), looks := true }, kinds := [], alts := [], laidByText := true, laidKinds := [.data, .data, .data, .sentinel, .sentinel], laidTests := true, laidLooks := .later }
def FnExactTokensOfCardSaid : Prop := Claim7.holds Tryz.pinned (.plain (OpenSpec.ofChange fnExactTokensOfSpec)) fnExactTokensOfCard

/-- THE SECOND FORM's CARD OF 'laws.FnExactNextToken'. -/
def fnExactNextTokenUptoCard : Claim7 := { stood := { row := fnExactNextTokenUptoRow, standIns := [], harness := (true, "12cdfa8cf064255f13b00afe735d8313de717f9fd6fbf37634cef2a0de1d06ca"), looks := true }, kinds := [], alts := [], laidByText := true, laidKinds := [.data, .data, .data, .sentinel, .sentinel], laidTests := true, laidLooks := .later }
def FnExactNextTokenUptoCardSaid : Prop := Claim7.holds Tryz.pinned (.plain (OpenSpec.upto fnExactNextTokenSpec)) fnExactNextTokenUptoCard

/-- THE SECOND FORM's CARD OF 'laws.FnExactTokensOf'. -/
def fnExactTokensOfUptoCard : Claim7 := { stood := { row := fnExactTokensOfUptoRow, standIns := [], harness := (true, "12cdfa8cf064255f13b00afe735d8313de717f9fd6fbf37634cef2a0de1d06ca"), looks := true }, kinds := [], alts := [], laidByText := true, laidKinds := [.data, .data, .data, .sentinel, .sentinel], laidTests := true, laidLooks := .later }
def FnExactTokensOfUptoCardSaid : Prop := Claim7.holds Tryz.pinned (.plain (OpenSpec.upto fnExactTokensOfSpec)) fnExactTokensOfUptoCard
end Rows
end Go.Proofs.YtfkanlbmgbkniaaGreatDoor
