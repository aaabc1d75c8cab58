/-
  DERIVED. GIVEN WITH THE SEED: THE CARDS: each row of YtlpncjeahdfolaaGreatDoorRows.lean that lists a variable, with what it lists TIED to the program's text (the seventh form; the later family's looks); each row that meets fmt, with fmt's text TOLD by the authors' own Lean function (tested against real Go, not proved from fmt's source: count such statements apart). THE CARD IS WHAT COUNTS. Prove the row's statement (the work); the ties are given (YtlpncjeahdfolaaGreatDoorTie.lean); close each card by the builder's one call (the guide's Derived/Test/ToyasCard.lean, 'card_holds'). Laid BY PROGRAM, IN A SANDBOX (cutbox-door.mjs). By AI agents, Wed Nov 11 2026. No macro, syntax, notation, axiom, sorry.
-/
import Derived.Test.YtlpncjeahdfolaaGreatDoorRows
import GoSem.ClaimSeven
namespace Go.Proofs.YtlpncjeahdfolaaGreatDoor
namespace Rows

/-- THE TIED CARD OF 'laws.FnExactSerialize'. -/
def fnExactSerializeCard : Claim7 := { stood := { row := fnExactSerializeRow, standIns := [], harness := (true, "9d49cea848e94848b7988e89daadb3ee71f135c947543285bf563ed3f2f5df5b"), looks := true }, kinds := [], alts := [], laidByText := true, laidKinds := [.data, .pinned], laidTests := true, laidLooks := .later }
def FnExactSerializeCardSaid : Prop := Claim7.holds Tryz.pinned (.plain (OpenSpec.ofChange fnExactSerializeSpec)) fnExactSerializeCard

/-- THE SECOND FORM's CARD OF 'laws.FnExactSerialize'. -/
def fnExactSerializeUptoCard : Claim7 := { stood := { row := fnExactSerializeUptoRow, standIns := [], harness := (true, "9d49cea848e94848b7988e89daadb3ee71f135c947543285bf563ed3f2f5df5b"), looks := true }, kinds := [], alts := [], laidByText := true, laidKinds := [.data, .pinned], laidTests := true, laidLooks := .later }
def FnExactSerializeUptoCardSaid : Prop := Claim7.holds Tryz.pinned (.plain (OpenSpec.upto fnExactSerializeSpec)) fnExactSerializeUptoCard
end Rows
end Go.Proofs.YtlpncjeahdfolaaGreatDoor
