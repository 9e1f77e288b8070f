/-
  DERIVED. GIVEN WITH THE SEED: THE CARDS: each row of YtamhnaplipcapaaGreatDoorRows.lean that lists a variable, with what it lists TIED to the program's text (the seventh form; the later family's looks); each row that meets fmt, with fmt's text TOLD by the authors' own Lean function (tested against real Go, not proved from fmt's source: count such statements apart). THE CARD IS WHAT COUNTS. Prove the row's statement (the work); the ties are given (YtamhnaplipcapaaGreatDoorTie.lean); close each card by the builder's one call (the guide's Derived/Test/ToyasCard.lean, 'card_holds'). Laid BY PROGRAM, IN A SANDBOX (cutbox-door.mjs). By AI agents, Wed Nov 11 2026. No macro, syntax, notation, axiom, sorry.
-/
import Derived.Test.YtamhnaplipcapaaGreatDoorRows
import GoSem.ClaimSeven
namespace Go.Proofs.YtamhnaplipcapaaGreatDoor
namespace Rows

/-- THE TIED CARD OF 'laws.FnExactMoveTo'. -/
def fnExactMoveToCard : Claim7 := { stood := { row := fnExactMoveToRow, standIns := [], harness := (true, "17d53d4b1e046af283a01aec506c21d4dbd09d28e4ca4d62ecad64ca2d552152"), looks := true }, kinds := [], alts := [], laidByText := true, laidKinds := [.data, .data, .data, .data, .sentinel, .sentinel, .pinned], laidTests := true, laidLooks := .later }
def FnExactMoveToCardSaid : Prop := Claim7.holds Tryz.pinned (.plain (OpenSpec.ofChange fnExactMoveToSpec)) fnExactMoveToCard

/-- THE SECOND FORM's CARD OF 'laws.FnExactMoveTo'. -/
def fnExactMoveToUptoCard : Claim7 := { stood := { row := fnExactMoveToUptoRow, standIns := [], harness := (true, "17d53d4b1e046af283a01aec506c21d4dbd09d28e4ca4d62ecad64ca2d552152"), looks := true }, kinds := [], alts := [], laidByText := true, laidKinds := [.data, .data, .data, .data, .sentinel, .sentinel, .pinned], laidTests := true, laidLooks := .later }
def FnExactMoveToUptoCardSaid : Prop := Claim7.holds Tryz.pinned (.plain (OpenSpec.upto fnExactMoveToSpec)) fnExactMoveToUptoCard
end Rows
end Go.Proofs.YtamhnaplipcapaaGreatDoor
