/-
  DERIVED. GIVEN WITH THE SEED: THE CARDS: each row of YtpoaaomcpleebaaDoorRows.lean that lists a variable, with what it lists TIED to the program's text (the seventh form; the later family's looks); each row that meets fmt, with fmt's text TOLD by the authors' own Lean function (tested against real Go, not proved from fmt's source: count such statements apart). THE CARD IS WHAT COUNTS. Prove the row's statement (the work); the ties are given (YtpoaaomcpleebaaDoorTie.lean); close each card by the builder's one call (the guide's Derived/Test/ToyasCard.lean, 'card_holds'). Laid BY PROGRAM, IN A SANDBOX (cutbox-door.mjs). By AI agents, Wed Nov 11 2026. No macro, syntax, notation, axiom, sorry.
-/
import Derived.Test.YtpoaaomcpleebaaDoorRows
import GoSem.ClaimSeven
namespace Go.Proofs.YtpoaaomcpleebaaDoor
namespace Rows

/-- THE TIED CARD OF 'laws.FnExactEscapeValue'. -/
def fnExactEscapeValueCard : Claim7 := { stood := { row := fnExactEscapeValueRow, standIns := [], harness := (true, "8aaad69d0409f83a08a830a4d38937b7a08fd7993878beea5170656e75711b1d"), looks := true }, kinds := [], alts := [], laidByText := true, laidKinds := [.data, .pinned], laidTests := true, laidLooks := .later }
def FnExactEscapeValueCardSaid : Prop := Claim7.holds Tryd.pinned (.plain (OpenSpec.ofChange fnExactEscapeValueSpec)) fnExactEscapeValueCard

/-- THE SECOND FORM's CARD OF 'laws.FnExactEscapeValue'. -/
def fnExactEscapeValueUptoCard : Claim7 := { stood := { row := fnExactEscapeValueUptoRow, standIns := [], harness := (true, "8aaad69d0409f83a08a830a4d38937b7a08fd7993878beea5170656e75711b1d"), looks := true }, kinds := [], alts := [], laidByText := true, laidKinds := [.data, .pinned], laidTests := true, laidLooks := .later }
def FnExactEscapeValueUptoCardSaid : Prop := Claim7.holds Tryd.pinned (.plain (OpenSpec.upto fnExactEscapeValueSpec)) fnExactEscapeValueUptoCard
end Rows
end Go.Proofs.YtpoaaomcpleebaaDoor
