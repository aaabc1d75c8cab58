/-
  DERIVED. GIVEN WITH THE SEED: THE CARDS: each row of YtpoaaomcpleebaaGreatDoorRows.lean that lists a variable, with what it lists TIED to the program's text (the seventh form; the later family's looks); each row that meets fmt, with fmt's text TOLD by the authors' own Lean function (tested against real Go, not proved from fmt's source: count such statements apart). THE CARD IS WHAT COUNTS. Prove the row's statement (the work); the ties are given (YtpoaaomcpleebaaGreatDoorTie.lean); close each card by the builder's one call (the guide's Derived/Test/ToyasCard.lean, 'card_holds'). Laid BY PROGRAM, IN A SANDBOX (cutbox-door.mjs). By AI agents, Wed Nov 11 2026. No macro, syntax, notation, axiom, sorry.
-/
import Derived.Test.YtpoaaomcpleebaaGreatDoorRows
import GoSem.ClaimSeven
namespace Go.Proofs.YtpoaaomcpleebaaGreatDoor
namespace Rows

/-- THE TIED CARD OF 'laws.FnExactStartTag'. -/
def fnExactStartTagCard : Claim7 := { stood := { row := fnExactStartTagRow, standIns := [], harness := (true, "a34b321f17cad6d11371fe973a0635d3bc117f03b07327bc1a2082f9db058d7b"), looks := true }, kinds := [], alts := [], laidByText := true, laidKinds := [.data, .pinned], laidTests := true, laidLooks := .later }
def FnExactStartTagCardSaid : Prop := Claim7.holds Tryz.pinned (.plain (OpenSpec.ofChange fnExactStartTagSpec)) fnExactStartTagCard

/-- THE SECOND FORM's CARD OF 'laws.FnExactStartTag'. -/
def fnExactStartTagUptoCard : Claim7 := { stood := { row := fnExactStartTagUptoRow, standIns := [], harness := (true, "a34b321f17cad6d11371fe973a0635d3bc117f03b07327bc1a2082f9db058d7b"), looks := true }, kinds := [], alts := [], laidByText := true, laidKinds := [.data, .pinned], laidTests := true, laidLooks := .later }
def FnExactStartTagUptoCardSaid : Prop := Claim7.holds Tryz.pinned (.plain (OpenSpec.upto fnExactStartTagSpec)) fnExactStartTagUptoCard
end Rows
end Go.Proofs.YtpoaaomcpleebaaGreatDoor
