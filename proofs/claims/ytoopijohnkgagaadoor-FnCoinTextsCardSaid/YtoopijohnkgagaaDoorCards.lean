/-
  DERIVED. GIVEN WITH THE SEED: THE CARDS: each row of YtoopijohnkgagaaDoorRows.lean that lists a variable, with what it lists TIED to the program's text (the seventh form; the later family's looks); each row that meets fmt, with fmt's text TOLD by the authors' own Lean function (tested against real Go, not proved from fmt's source: count such statements apart). THE CARD IS WHAT COUNTS. Prove the row's statement (the work); the ties are given (YtoopijohnkgagaaDoorTie.lean); close each card by the builder's one call (the guide's Derived/Test/ToyasCard.lean, 'card_holds'). Laid BY PROGRAM, IN A SANDBOX (cutbox-door.mjs). By AI agents, Wed Nov 11 2026. No macro, syntax, notation, axiom, sorry.
-/
import Derived.Test.YtoopijohnkgagaaDoorRows
import GoSem.ClaimSeven
namespace Go.Proofs.YtoopijohnkgagaaDoor
namespace Rows

/-- THE TIED CARD OF 'laws.FnExactWordsOf'. -/
def fnExactWordsOfCard : Claim7 := { stood := { row := fnExactWordsOfRow, standIns := [], harness := (true, "9fb128e309fa70bde0e0b1492383e2a09a64231e1331fa74ddc583599a499733"), looks := false }, kinds := [], alts := [], laidByText := true, laidKinds := [.data, .pinned], laidTests := true, laidLooks := .later }
def FnExactWordsOfCardSaid : Prop := Claim7.holds Tryd.pinned (.plain (OpenSpec.ofChange fnExactWordsOfSpec)) fnExactWordsOfCard

/-- THE TIED CARD OF 'laws.FnExactCoinsText'. -/
def fnExactCoinsTextCard : Claim7 := { stood := { row := fnExactCoinsTextRow, standIns := [], harness := (true, "9fb128e309fa70bde0e0b1492383e2a09a64231e1331fa74ddc583599a499733"), looks := false }, kinds := [], alts := [], laidByText := true, laidKinds := [.data, .data, .data], laidTests := true, laidLooks := .later }
def FnExactCoinsTextCardSaid : Prop := Claim7.holds Tryd.pinned (.plain (OpenSpec.ofChange fnExactCoinsTextSpec)) fnExactCoinsTextCard

/-- THE TIED CARD OF 'laws.FnCoinTexts'. -/
def fnCoinTextsCard : Claim7 := { stood := { row := fnCoinTextsRow, standIns := [], harness := (true, "9fb128e309fa70bde0e0b1492383e2a09a64231e1331fa74ddc583599a499733"), looks := false }, kinds := [], alts := [], laidByText := true, laidKinds := [.data, .data, .data, .data, .pinned], laidTests := true, laidLooks := .later }
def FnCoinTextsCardSaid : Prop := Claim7.holds Tryd.pinned (.plain (OpenSpec.ofChange fnCoinTextsSpec)) fnCoinTextsCard

/-- THE SECOND FORM's CARD OF 'laws.FnExactWordsOf'. -/
def fnExactWordsOfUptoCard : Claim7 := { stood := { row := fnExactWordsOfUptoRow, standIns := [], harness := (true, "9fb128e309fa70bde0e0b1492383e2a09a64231e1331fa74ddc583599a499733"), looks := false }, kinds := [], alts := [], laidByText := true, laidKinds := [.data, .pinned], laidTests := true, laidLooks := .later }
def FnExactWordsOfUptoCardSaid : Prop := Claim7.holds Tryd.pinned (.plain (OpenSpec.upto fnExactWordsOfSpec)) fnExactWordsOfUptoCard

/-- THE SECOND FORM's CARD OF 'laws.FnExactCoinsText'. -/
def fnExactCoinsTextUptoCard : Claim7 := { stood := { row := fnExactCoinsTextUptoRow, standIns := [], harness := (true, "9fb128e309fa70bde0e0b1492383e2a09a64231e1331fa74ddc583599a499733"), looks := false }, kinds := [], alts := [], laidByText := true, laidKinds := [.data, .data, .data], laidTests := true, laidLooks := .later }
def FnExactCoinsTextUptoCardSaid : Prop := Claim7.holds Tryd.pinned (.plain (OpenSpec.upto fnExactCoinsTextSpec)) fnExactCoinsTextUptoCard

/-- THE SECOND FORM's CARD OF 'laws.FnCoinTexts'. -/
def fnCoinTextsUptoCard : Claim7 := { stood := { row := fnCoinTextsUptoRow, standIns := [], harness := (true, "9fb128e309fa70bde0e0b1492383e2a09a64231e1331fa74ddc583599a499733"), looks := false }, kinds := [], alts := [], laidByText := true, laidKinds := [.data, .data, .data, .data, .pinned], laidTests := true, laidLooks := .later }
def FnCoinTextsUptoCardSaid : Prop := Claim7.holds Tryd.pinned (.plain (OpenSpec.upto fnCoinTextsSpec)) fnCoinTextsUptoCard
end Rows
end Go.Proofs.YtoopijohnkgagaaDoor
