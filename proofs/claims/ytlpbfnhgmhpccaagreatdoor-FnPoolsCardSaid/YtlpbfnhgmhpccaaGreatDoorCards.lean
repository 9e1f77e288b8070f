/-
  DERIVED. GIVEN WITH THE SEED: THE CARDS: each row of YtlpbfnhgmhpccaaGreatDoorRows.lean that lists a variable, with what it lists TIED to the program's text (the seventh form; the later family's looks); each row that meets fmt, with fmt's text TOLD by the authors' own Lean function (tested against real Go, not proved from fmt's source: count such statements apart). THE CARD IS WHAT COUNTS. Prove the row's statement (the work); the ties are given (YtlpbfnhgmhpccaaGreatDoorTie.lean); close each card by the builder's one call (the guide's Derived/Test/ToyasCard.lean, 'card_holds'). Laid BY PROGRAM, IN A SANDBOX (cutbox-door.mjs). By AI agents, Wed Nov 11 2026. No macro, syntax, notation, axiom, sorry.
-/
import Derived.Test.YtlpbfnhgmhpccaaGreatDoorRows
import GoSem.ClaimSeven
namespace Go.Proofs.YtlpbfnhgmhpccaaGreatDoor
namespace Rows

/-- THE TIED CARD OF 'laws.FnPools'. -/
def fnPoolsCard : Claim7 := { stood := { row := fnPoolsRow, standIns := [], harness := (true, "895fab8a7f85488edaee7941cd1d96de0179baf8ae8cd374e18eb0551a73bc19"), looks := true }, kinds := [], alts := [], laidByText := true, laidKinds := [.data, .data, .data, .data, .sentinel, .sentinel, .pinned], laidTests := true, laidLooks := .later }
def FnPoolsCardSaid : Prop := Claim7.holds Tryz.pinned (.plain (OpenSpec.ofChange fnPoolsSpec)) fnPoolsCard

/-- THE SECOND FORM's CARD OF 'laws.FnPools'. -/
def fnPoolsUptoCard : Claim7 := { stood := { row := fnPoolsUptoRow, standIns := [], harness := (true, "895fab8a7f85488edaee7941cd1d96de0179baf8ae8cd374e18eb0551a73bc19"), looks := true }, kinds := [], alts := [], laidByText := true, laidKinds := [.data, .data, .data, .data, .sentinel, .sentinel, .pinned], laidTests := true, laidLooks := .later }
def FnPoolsUptoCardSaid : Prop := Claim7.holds Tryz.pinned (.plain (OpenSpec.upto fnPoolsSpec)) fnPoolsUptoCard
end Rows
end Go.Proofs.YtlpbfnhgmhpccaaGreatDoor
