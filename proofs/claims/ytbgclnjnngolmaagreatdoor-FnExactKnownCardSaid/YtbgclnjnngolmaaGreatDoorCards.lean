/-
  DERIVED. GIVEN WITH THE SEED: THE CARDS: each row of YtbgclnjnngolmaaGreatDoorRows.lean that lists a variable, with what it lists TIED to the program's text (the seventh form; the later family's looks); each row that meets fmt, with fmt's text TOLD by the authors' own Lean function (tested against real Go, not proved from fmt's source: count such statements apart). THE CARD IS WHAT COUNTS. Prove the row's statement (the work); the ties are given (YtbgclnjnngolmaaGreatDoorTie.lean); close each card by the builder's one call (the guide's Derived/Test/ToyasCard.lean, 'card_holds'). Laid BY PROGRAM, IN A SANDBOX (cutbox-door.mjs). By AI agents, Wed Nov 11 2026. No macro, syntax, notation, axiom, sorry.
-/
import Derived.Test.YtbgclnjnngolmaaGreatDoorRows
import GoSem.ClaimSeven
namespace Go.Proofs.YtbgclnjnngolmaaGreatDoor
namespace Rows

/-- THE TIED CARD OF 'laws.FnExactKnown'. -/
def fnExactKnownCard : Claim7 := { stood := { row := fnExactKnownRow, standIns := [], harness := (true, "8ebc82d4a2f015d71e06f1e83a4d6bdd60c55dc716423f3b4742ae922e90e8b7"), looks := true }, kinds := [], alts := [], laidByText := true, laidKinds := [.data, .data, .data, .data, .sentinel, .sentinel, .pinned], laidTests := true, laidLooks := .later }
def FnExactKnownCardSaid : Prop := Claim7.holds Tryz.pinned (.plain (OpenSpec.ofChange fnExactKnownSpec)) fnExactKnownCard

/-- THE SECOND FORM's CARD OF 'laws.FnExactKnown'. -/
def fnExactKnownUptoCard : Claim7 := { stood := { row := fnExactKnownUptoRow, standIns := [], harness := (true, "8ebc82d4a2f015d71e06f1e83a4d6bdd60c55dc716423f3b4742ae922e90e8b7"), looks := true }, kinds := [], alts := [], laidByText := true, laidKinds := [.data, .data, .data, .data, .sentinel, .sentinel, .pinned], laidTests := true, laidLooks := .later }
def FnExactKnownUptoCardSaid : Prop := Claim7.holds Tryz.pinned (.plain (OpenSpec.upto fnExactKnownSpec)) fnExactKnownUptoCard
end Rows
end Go.Proofs.YtbgclnjnngolmaaGreatDoor
