/-
  DERIVED. GIVEN WITH THE SEED: THE CARDS: each row of YtjipmcikidfhiaaGreatDoorRows.lean that lists a variable, with what it lists TIED to the program's text (the seventh form; the later family's looks); each row that meets fmt, with fmt's text TOLD by the authors' own Lean function (tested against real Go, not proved from fmt's source: count such statements apart). THE CARD IS WHAT COUNTS. Prove the row's statement (the work); the ties are given (YtjipmcikidfhiaaGreatDoorTie.lean); close each card by the builder's one call (the guide's Derived/Test/ToyasCard.lean, 'card_holds'). Laid BY PROGRAM, IN A SANDBOX (cutbox-door.mjs). By AI agents, Wed Nov 11 2026. No macro, syntax, notation, axiom, sorry.
-/
import Derived.Test.YtjipmcikidfhiaaGreatDoorRows
import GoSem.ClaimSeven
namespace Go.Proofs.YtjipmcikidfhiaaGreatDoor
namespace Rows

/-- THE TIED CARD OF 'laws.FnExactChainFault'. -/
def fnExactChainFaultCard : Claim7 := { stood := { row := fnExactChainFaultRow, standIns := [], harness := (true, "4b088f6ae52d68bacd55f60f7370c955d27fad1dab1dffb448941febacbc147e"), looks := true }, kinds := [], alts := [], laidByText := true, laidKinds := [.data, .data, .data, .data, .sentinel, .sentinel, .pinned], laidTests := true, laidLooks := .later }
def FnExactChainFaultCardSaid : Prop := Claim7.holds Tryz.pinned (.plain (OpenSpec.ofChange fnExactChainFaultSpec)) fnExactChainFaultCard

/-- THE SECOND FORM's CARD OF 'laws.FnExactChainFault'. -/
def fnExactChainFaultUptoCard : Claim7 := { stood := { row := fnExactChainFaultUptoRow, standIns := [], harness := (true, "4b088f6ae52d68bacd55f60f7370c955d27fad1dab1dffb448941febacbc147e"), looks := true }, kinds := [], alts := [], laidByText := true, laidKinds := [.data, .data, .data, .data, .sentinel, .sentinel, .pinned], laidTests := true, laidLooks := .later }
def FnExactChainFaultUptoCardSaid : Prop := Claim7.holds Tryz.pinned (.plain (OpenSpec.upto fnExactChainFaultSpec)) fnExactChainFaultUptoCard
end Rows
end Go.Proofs.YtjipmcikidfhiaaGreatDoor
