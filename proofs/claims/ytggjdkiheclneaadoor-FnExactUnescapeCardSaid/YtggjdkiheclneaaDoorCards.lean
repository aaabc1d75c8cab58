/-
  DERIVED. GIVEN WITH THE SEED: THE CARDS: each row of YtggjdkiheclneaaDoorRows.lean that lists a variable, with what it lists TIED to the program's text (the seventh form; the later family's looks); each row that meets fmt, with fmt's text TOLD by the authors' own Lean function (tested against real Go, not proved from fmt's source: count such statements apart). THE CARD IS WHAT COUNTS. Prove the row's statement (the work); the ties are given (YtggjdkiheclneaaDoorTie.lean); close each card by the builder's one call (the guide's Derived/Test/ToyasCard.lean, 'card_holds'). Laid BY PROGRAM, IN A SANDBOX (cutbox-door.mjs). By AI agents, Wed Nov 11 2026. No macro, syntax, notation, axiom, sorry.
-/
import Derived.Test.YtggjdkiheclneaaDoorRows
import GoSem.ClaimSeven
namespace Go.Proofs.YtggjdkiheclneaaDoor
namespace Rows

/-- THE TIED CARD OF 'laws.FnExactUnescape'. -/
def fnExactUnescapeCard : Claim7 := { stood := { row := fnExactUnescapeRow, standIns := [], harness := (true, "9d13a92491ce13fa68cf5b1abbf1f1c929134366d3eb204b3db523cb508a7dd8"), looks := true }, kinds := [], alts := [], laidByText := true, laidKinds := [.data, .data, .data, .sentinel, .sentinel], laidTests := true, laidLooks := .later }
def FnExactUnescapeCardSaid : Prop := Claim7.holds Tryd.pinned (.plain (OpenSpec.ofChange fnExactUnescapeSpec)) fnExactUnescapeCard

/-- THE SECOND FORM's CARD OF 'laws.FnExactUnescape'. -/
def fnExactUnescapeUptoCard : Claim7 := { stood := { row := fnExactUnescapeUptoRow, standIns := [], harness := (true, "9d13a92491ce13fa68cf5b1abbf1f1c929134366d3eb204b3db523cb508a7dd8"), looks := true }, kinds := [], alts := [], laidByText := true, laidKinds := [.data, .data, .data, .sentinel, .sentinel], laidTests := true, laidLooks := .later }
def FnExactUnescapeUptoCardSaid : Prop := Claim7.holds Tryd.pinned (.plain (OpenSpec.upto fnExactUnescapeSpec)) fnExactUnescapeUptoCard
end Rows
end Go.Proofs.YtggjdkiheclneaaDoor
