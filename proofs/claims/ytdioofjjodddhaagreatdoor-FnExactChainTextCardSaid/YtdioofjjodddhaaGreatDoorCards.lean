/-
  DERIVED. GIVEN WITH THE SEED: THE CARDS: each row of YtdioofjjodddhaaGreatDoorRows.lean that lists a variable, with what it lists TIED to the program's text (the seventh form; the later family's looks); each row that meets fmt, with fmt's text TOLD by the authors' own Lean function (tested against real Go, not proved from fmt's source: count such statements apart). THE CARD IS WHAT COUNTS. Prove the row's statement (the work); the ties are given (YtdioofjjodddhaaGreatDoorTie.lean); close each card by the builder's one call (the guide's Derived/Test/ToyasCard.lean, 'card_holds'). Laid BY PROGRAM, IN A SANDBOX (cutbox-door.mjs). By AI agents, Wed Nov 11 2026. No macro, syntax, notation, axiom, sorry.
-/
import Derived.Test.YtdioofjjodddhaaGreatDoorRows
import GoSem.ClaimSeven
namespace Go.Proofs.YtdioofjjodddhaaGreatDoor
namespace Rows

/-- THE TIED CARD OF 'laws.FnExactChainText'. -/
def fnExactChainTextCard : Claim7 := { stood := { row := fnExactChainTextRow, standIns := [], harness := (true, "557e8af944734ec00744a29eb6a29ec98663b5d18853cbb1e697e29505623951"), looks := true }, kinds := [], alts := [], laidByText := true, laidKinds := [.data, .data, .data, .data, .sentinel, .sentinel, .pinned], laidTests := true, laidLooks := .later }
def FnExactChainTextCardSaid : Prop := Claim7.holds Tryz.pinned (.plain (OpenSpec.ofChange fnExactChainTextSpec)) fnExactChainTextCard

/-- THE SECOND FORM's CARD OF 'laws.FnExactChainText'. -/
def fnExactChainTextUptoCard : Claim7 := { stood := { row := fnExactChainTextUptoRow, standIns := [], harness := (true, "557e8af944734ec00744a29eb6a29ec98663b5d18853cbb1e697e29505623951"), looks := true }, kinds := [], alts := [], laidByText := true, laidKinds := [.data, .data, .data, .data, .sentinel, .sentinel, .pinned], laidTests := true, laidLooks := .later }
def FnExactChainTextUptoCardSaid : Prop := Claim7.holds Tryz.pinned (.plain (OpenSpec.upto fnExactChainTextSpec)) fnExactChainTextUptoCard
end Rows
end Go.Proofs.YtdioofjjodddhaaGreatDoor
