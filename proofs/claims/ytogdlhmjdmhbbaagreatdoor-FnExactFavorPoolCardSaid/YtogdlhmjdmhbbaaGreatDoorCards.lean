/-
  DERIVED. GIVEN WITH THE SEED: THE CARDS: each row of YtogdlhmjdmhbbaaGreatDoorRows.lean that lists a variable, with what it lists TIED to the program's text (the seventh form; the later family's looks); each row that meets fmt, with fmt's text TOLD by the authors' own Lean function (tested against real Go, not proved from fmt's source: count such statements apart). THE CARD IS WHAT COUNTS. Prove the row's statement (the work); the ties are given (YtogdlhmjdmhbbaaGreatDoorTie.lean); close each card by the builder's one call (the guide's Derived/Test/ToyasCard.lean, 'card_holds'). Laid BY PROGRAM, IN A SANDBOX (cutbox-door.mjs). By AI agents, Wed Nov 11 2026. No macro, syntax, notation, axiom, sorry.
-/
import Derived.Test.YtogdlhmjdmhbbaaGreatDoorRows
import GoSem.ClaimSeven
namespace Go.Proofs.YtogdlhmjdmhbbaaGreatDoor
namespace Rows

/-- THE TIED CARD OF 'laws.FnExactPoolFault'. -/
def fnExactPoolFaultCard : Claim7 := { stood := { row := fnExactPoolFaultRow, standIns := [], harness := (true, "26724d398817e55ba3ce333b1c71e8f350a30f28eb5fa72e381c9f25494c260a"), looks := true }, kinds := [], alts := [], laidByText := true, laidKinds := [.data, .data, .data, .data, .sentinel, .sentinel, .pinned], laidTests := true, laidLooks := .later }
def FnExactPoolFaultCardSaid : Prop := Claim7.holds Tryz.pinned (.plain (OpenSpec.ofChange fnExactPoolFaultSpec)) fnExactPoolFaultCard

/-- THE TIED CARD OF 'laws.FnExactFeesOf'. -/
def fnExactFeesOfCard : Claim7 := { stood := { row := fnExactFeesOfRow, standIns := [], harness := (true, "26724d398817e55ba3ce333b1c71e8f350a30f28eb5fa72e381c9f25494c260a"), looks := true }, kinds := [], alts := [], laidByText := true, laidKinds := [.data, .data, .data, .data, .sentinel, .sentinel, .pinned], laidTests := true, laidLooks := .later }
def FnExactFeesOfCardSaid : Prop := Claim7.holds Tryz.pinned (.plain (OpenSpec.ofChange fnExactFeesOfSpec)) fnExactFeesOfCard

/-- THE TIED CARD OF 'laws.FnExactTrimPool'. -/
def fnExactTrimPoolCard : Claim7 := { stood := { row := fnExactTrimPoolRow, standIns := [], harness := (true, "26724d398817e55ba3ce333b1c71e8f350a30f28eb5fa72e381c9f25494c260a"), looks := true }, kinds := [], alts := [], laidByText := true, laidKinds := [.data, .data, .data, .data, .sentinel, .sentinel, .pinned], laidTests := true, laidLooks := .later }
def FnExactTrimPoolCardSaid : Prop := Claim7.holds Tryz.pinned (.plain (OpenSpec.ofChange fnExactTrimPoolSpec)) fnExactTrimPoolCard

/-- THE TIED CARD OF 'laws.FnExactAddPool'. -/
def fnExactAddPoolCard : Claim7 := { stood := { row := fnExactAddPoolRow, standIns := [], harness := (true, "26724d398817e55ba3ce333b1c71e8f350a30f28eb5fa72e381c9f25494c260a"), looks := true }, kinds := [], alts := [], laidByText := true, laidKinds := [.data, .data, .data, .data, .sentinel, .sentinel, .pinned], laidTests := true, laidLooks := .later }
def FnExactAddPoolCardSaid : Prop := Claim7.holds Tryz.pinned (.plain (OpenSpec.ofChange fnExactAddPoolSpec)) fnExactAddPoolCard

/-- THE TIED CARD OF 'laws.FnExactMineBlock'. -/
def fnExactMineBlockCard : Claim7 := { stood := { row := fnExactMineBlockRow, standIns := [], harness := (true, "26724d398817e55ba3ce333b1c71e8f350a30f28eb5fa72e381c9f25494c260a"), looks := true }, kinds := [], alts := [], laidByText := true, laidKinds := [.data, .data, .data, .data, .sentinel, .sentinel, .pinned], laidTests := true, laidLooks := .later }
def FnExactMineBlockCardSaid : Prop := Claim7.holds Tryz.pinned (.plain (OpenSpec.ofChange fnExactMineBlockSpec)) fnExactMineBlockCard

/-- THE TIED CARD OF 'laws.FnExactFavorPool'. -/
def fnExactFavorPoolCard : Claim7 := { stood := { row := fnExactFavorPoolRow, standIns := [], harness := (true, "26724d398817e55ba3ce333b1c71e8f350a30f28eb5fa72e381c9f25494c260a"), looks := true }, kinds := [], alts := [], laidByText := true, laidKinds := [.data, .data, .data, .data, .sentinel, .sentinel, .pinned], laidTests := true, laidLooks := .later }
def FnExactFavorPoolCardSaid : Prop := Claim7.holds Tryz.pinned (.plain (OpenSpec.ofChange fnExactFavorPoolSpec)) fnExactFavorPoolCard

/-- THE SECOND FORM's CARD OF 'laws.FnExactPoolFault'. -/
def fnExactPoolFaultUptoCard : Claim7 := { stood := { row := fnExactPoolFaultUptoRow, standIns := [], harness := (true, "26724d398817e55ba3ce333b1c71e8f350a30f28eb5fa72e381c9f25494c260a"), looks := true }, kinds := [], alts := [], laidByText := true, laidKinds := [.data, .data, .data, .data, .sentinel, .sentinel, .pinned], laidTests := true, laidLooks := .later }
def FnExactPoolFaultUptoCardSaid : Prop := Claim7.holds Tryz.pinned (.plain (OpenSpec.upto fnExactPoolFaultSpec)) fnExactPoolFaultUptoCard

/-- THE SECOND FORM's CARD OF 'laws.FnExactFeesOf'. -/
def fnExactFeesOfUptoCard : Claim7 := { stood := { row := fnExactFeesOfUptoRow, standIns := [], harness := (true, "26724d398817e55ba3ce333b1c71e8f350a30f28eb5fa72e381c9f25494c260a"), looks := true }, kinds := [], alts := [], laidByText := true, laidKinds := [.data, .data, .data, .data, .sentinel, .sentinel, .pinned], laidTests := true, laidLooks := .later }
def FnExactFeesOfUptoCardSaid : Prop := Claim7.holds Tryz.pinned (.plain (OpenSpec.upto fnExactFeesOfSpec)) fnExactFeesOfUptoCard

/-- THE SECOND FORM's CARD OF 'laws.FnExactTrimPool'. -/
def fnExactTrimPoolUptoCard : Claim7 := { stood := { row := fnExactTrimPoolUptoRow, standIns := [], harness := (true, "26724d398817e55ba3ce333b1c71e8f350a30f28eb5fa72e381c9f25494c260a"), looks := true }, kinds := [], alts := [], laidByText := true, laidKinds := [.data, .data, .data, .data, .sentinel, .sentinel, .pinned], laidTests := true, laidLooks := .later }
def FnExactTrimPoolUptoCardSaid : Prop := Claim7.holds Tryz.pinned (.plain (OpenSpec.upto fnExactTrimPoolSpec)) fnExactTrimPoolUptoCard

/-- THE SECOND FORM's CARD OF 'laws.FnExactAddPool'. -/
def fnExactAddPoolUptoCard : Claim7 := { stood := { row := fnExactAddPoolUptoRow, standIns := [], harness := (true, "26724d398817e55ba3ce333b1c71e8f350a30f28eb5fa72e381c9f25494c260a"), looks := true }, kinds := [], alts := [], laidByText := true, laidKinds := [.data, .data, .data, .data, .sentinel, .sentinel, .pinned], laidTests := true, laidLooks := .later }
def FnExactAddPoolUptoCardSaid : Prop := Claim7.holds Tryz.pinned (.plain (OpenSpec.upto fnExactAddPoolSpec)) fnExactAddPoolUptoCard

/-- THE SECOND FORM's CARD OF 'laws.FnExactMineBlock'. -/
def fnExactMineBlockUptoCard : Claim7 := { stood := { row := fnExactMineBlockUptoRow, standIns := [], harness := (true, "26724d398817e55ba3ce333b1c71e8f350a30f28eb5fa72e381c9f25494c260a"), looks := true }, kinds := [], alts := [], laidByText := true, laidKinds := [.data, .data, .data, .data, .sentinel, .sentinel, .pinned], laidTests := true, laidLooks := .later }
def FnExactMineBlockUptoCardSaid : Prop := Claim7.holds Tryz.pinned (.plain (OpenSpec.upto fnExactMineBlockSpec)) fnExactMineBlockUptoCard

/-- THE SECOND FORM's CARD OF 'laws.FnExactFavorPool'. -/
def fnExactFavorPoolUptoCard : Claim7 := { stood := { row := fnExactFavorPoolUptoRow, standIns := [], harness := (true, "26724d398817e55ba3ce333b1c71e8f350a30f28eb5fa72e381c9f25494c260a"), looks := true }, kinds := [], alts := [], laidByText := true, laidKinds := [.data, .data, .data, .data, .sentinel, .sentinel, .pinned], laidTests := true, laidLooks := .later }
def FnExactFavorPoolUptoCardSaid : Prop := Claim7.holds Tryz.pinned (.plain (OpenSpec.upto fnExactFavorPoolSpec)) fnExactFavorPoolUptoCard
end Rows
end Go.Proofs.YtogdlhmjdmhbbaaGreatDoor
