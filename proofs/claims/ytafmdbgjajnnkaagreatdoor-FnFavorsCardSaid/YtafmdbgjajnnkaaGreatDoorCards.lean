/-
  DERIVED. GIVEN WITH THE SEED: THE CARDS: each row of YtafmdbgjajnnkaaGreatDoorRows.lean that lists a variable, with what it lists TIED to the program's text (the seventh form; the later family's looks); each row that meets fmt, with fmt's text TOLD by the authors' own Lean function (tested against real Go, not proved from fmt's source: count such statements apart). THE CARD IS WHAT COUNTS. Prove the row's statement (the work); the ties are given (YtafmdbgjajnnkaaGreatDoorTie.lean); close each card by the builder's one call (the guide's Derived/Test/ToyasCard.lean, 'card_holds'). Laid BY PROGRAM, IN A SANDBOX (cutbox-door.mjs). By AI agents, Wed Nov 11 2026. No macro, syntax, notation, axiom, sorry.
-/
import Derived.Test.YtafmdbgjajnnkaaGreatDoorRows
import GoSem.ClaimSeven
namespace Go.Proofs.YtafmdbgjajnnkaaGreatDoor
namespace Rows

/-- THE TIED CARD OF 'laws.FnTrims'. -/
def fnTrimsCard : Claim7 := { stood := { row := fnTrimsRow, standIns := [], harness := (true, "b556d8721c6a9fdfb74b22feb96462e54b1bc45db5ea70486b3f6c7527044b9e"), looks := true }, kinds := [], alts := [], laidByText := true, laidKinds := [.data, .data, .data, .data, .sentinel, .sentinel, .pinned], laidTests := true, laidLooks := .later }
def FnTrimsCardSaid : Prop := Claim7.holds Tryz.pinned (.plain (OpenSpec.ofChange fnTrimsSpec)) fnTrimsCard

/-- THE TIED CARD OF 'laws.FnFavors'. -/
def fnFavorsCard : Claim7 := { stood := { row := fnFavorsRow, standIns := [], harness := (true, "b556d8721c6a9fdfb74b22feb96462e54b1bc45db5ea70486b3f6c7527044b9e"), looks := true }, kinds := [], alts := [], laidByText := true, laidKinds := [.data, .data, .data, .data, .sentinel, .sentinel, .pinned], laidTests := true, laidLooks := .later }
def FnFavorsCardSaid : Prop := Claim7.holds Tryz.pinned (.plain (OpenSpec.ofChange fnFavorsSpec)) fnFavorsCard

/-- THE TIED CARD OF 'laws.FnPools'. -/
def fnPoolsCard : Claim7 := { stood := { row := fnPoolsRow, standIns := [], harness := (true, "b556d8721c6a9fdfb74b22feb96462e54b1bc45db5ea70486b3f6c7527044b9e"), looks := true }, kinds := [], alts := [], laidByText := true, laidKinds := [.data, .data, .data, .data, .sentinel, .sentinel, .pinned], laidTests := true, laidLooks := .later }
def FnPoolsCardSaid : Prop := Claim7.holds Tryz.pinned (.plain (OpenSpec.ofChange fnPoolsSpec)) fnPoolsCard

/-- THE SECOND FORM's CARD OF 'laws.FnTrims'. -/
def fnTrimsUptoCard : Claim7 := { stood := { row := fnTrimsUptoRow, standIns := [], harness := (true, "b556d8721c6a9fdfb74b22feb96462e54b1bc45db5ea70486b3f6c7527044b9e"), looks := true }, kinds := [], alts := [], laidByText := true, laidKinds := [.data, .data, .data, .data, .sentinel, .sentinel, .pinned], laidTests := true, laidLooks := .later }
def FnTrimsUptoCardSaid : Prop := Claim7.holds Tryz.pinned (.plain (OpenSpec.upto fnTrimsSpec)) fnTrimsUptoCard

/-- THE SECOND FORM's CARD OF 'laws.FnFavors'. -/
def fnFavorsUptoCard : Claim7 := { stood := { row := fnFavorsUptoRow, standIns := [], harness := (true, "b556d8721c6a9fdfb74b22feb96462e54b1bc45db5ea70486b3f6c7527044b9e"), looks := true }, kinds := [], alts := [], laidByText := true, laidKinds := [.data, .data, .data, .data, .sentinel, .sentinel, .pinned], laidTests := true, laidLooks := .later }
def FnFavorsUptoCardSaid : Prop := Claim7.holds Tryz.pinned (.plain (OpenSpec.upto fnFavorsSpec)) fnFavorsUptoCard

/-- THE SECOND FORM's CARD OF 'laws.FnPools'. -/
def fnPoolsUptoCard : Claim7 := { stood := { row := fnPoolsUptoRow, standIns := [], harness := (true, "b556d8721c6a9fdfb74b22feb96462e54b1bc45db5ea70486b3f6c7527044b9e"), looks := true }, kinds := [], alts := [], laidByText := true, laidKinds := [.data, .data, .data, .data, .sentinel, .sentinel, .pinned], laidTests := true, laidLooks := .later }
def FnPoolsUptoCardSaid : Prop := Claim7.holds Tryz.pinned (.plain (OpenSpec.upto fnPoolsSpec)) fnPoolsUptoCard
end Rows
end Go.Proofs.YtafmdbgjajnnkaaGreatDoor
