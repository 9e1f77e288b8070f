/-
  DERIVED. GIVEN WITH THE SEED: THE CARDS: each row of YtmklfdnhndakcaaGreatDoorRows.lean that lists a variable, with what it lists TIED to the program's text (the seventh form; the later family's looks); each row that meets fmt, with fmt's text TOLD by the authors' own Lean function (tested against real Go, not proved from fmt's source: count such statements apart). THE CARD IS WHAT COUNTS. Prove the row's statement (the work); the ties are given (YtmklfdnhndakcaaGreatDoorTie.lean); close each card by the builder's one call (the guide's Derived/Test/ToyasCard.lean, 'card_holds'). Laid BY PROGRAM, IN A SANDBOX (cutbox-door.mjs). By AI agents, Wed Nov 11 2026. No macro, syntax, notation, axiom, sorry.
-/
import Derived.Test.YtmklfdnhndakcaaGreatDoorRows
import GoSem.ClaimSeven
namespace Go.Proofs.YtmklfdnhndakcaaGreatDoor
namespace Rows

/-- THE TIED CARD OF 'laws.FnExactLockBlock'. -/
def fnExactLockBlockCard : Claim7 := { stood := { row := fnExactLockBlockRow, standIns := [], harness := (true, "5bf6251738c656300bbe7563301b3d1aff06bf88853c8b8bce638fda322f28d0"), looks := true }, kinds := [], alts := [], laidByText := true, laidKinds := [.data, .data, .data, .data, .sentinel, .sentinel, .pinned], laidTests := true, laidLooks := .later }
def FnExactLockBlockCardSaid : Prop := Claim7.holds Tryz.pinned (.plain (OpenSpec.ofChange fnExactLockBlockSpec)) fnExactLockBlockCard

/-- THE SECOND FORM's CARD OF 'laws.FnExactLockBlock'. -/
def fnExactLockBlockUptoCard : Claim7 := { stood := { row := fnExactLockBlockUptoRow, standIns := [], harness := (true, "5bf6251738c656300bbe7563301b3d1aff06bf88853c8b8bce638fda322f28d0"), looks := true }, kinds := [], alts := [], laidByText := true, laidKinds := [.data, .data, .data, .data, .sentinel, .sentinel, .pinned], laidTests := true, laidLooks := .later }
def FnExactLockBlockUptoCardSaid : Prop := Claim7.holds Tryz.pinned (.plain (OpenSpec.upto fnExactLockBlockSpec)) fnExactLockBlockUptoCard
end Rows
end Go.Proofs.YtmklfdnhndakcaaGreatDoor
