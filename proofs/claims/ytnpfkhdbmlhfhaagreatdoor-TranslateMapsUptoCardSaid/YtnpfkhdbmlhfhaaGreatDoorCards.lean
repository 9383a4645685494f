/-
  DERIVED. GIVEN WITH THE SEED: THE CARDS: each row of YtnpfkhdbmlhfhaaGreatDoorRows.lean that lists a variable, with what it lists TIED to the program's text (the seventh form; the later family's looks); each row that meets fmt, with fmt's text TOLD by the authors' own Lean function (tested against real Go, not proved from fmt's source: count such statements apart). THE CARD IS WHAT COUNTS. Prove the row's statement (the work); the ties are given (YtnpfkhdbmlhfhaaGreatDoorTie.lean); close each card by the builder's one call (the guide's Derived/Test/ToyasCard.lean, 'card_holds'). Laid BY PROGRAM, IN A SANDBOX (cutbox-door.mjs). By AI agents, Wed Nov 11 2026. No macro, syntax, notation, axiom, sorry.
-/
import Derived.Test.YtnpfkhdbmlhfhaaGreatDoorRows
import GoSem.ClaimSeven
namespace Go.Proofs.YtnpfkhdbmlhfhaaGreatDoor
namespace Rows

/-- THE TIED CARD OF 'midrangelaw16.TranslateFacts'. -/
def translateFactsCard : Claim7 := { stood := { row := translateFactsRow, standIns := [], harness := (true, "f23e674357428057a511d4a4b670af1582f39bc358630154f3e537ad2cf99aff"), looks := false }, kinds := [], alts := [], laidByText := true, laidKinds := [.data, .data], laidTests := true, laidLooks := .later }
def TranslateFactsCardSaid : Prop := Claim7.holds Tryz.pinned (.plain (OpenSpec.ofChange translateFactsSpec)) translateFactsCard

/-- THE TIED CARD OF 'midrangelaw16.TranslateLess'. -/
def translateLessCard : Claim7 := { stood := { row := translateLessRow, standIns := [], harness := (true, "f23e674357428057a511d4a4b670af1582f39bc358630154f3e537ad2cf99aff"), looks := false }, kinds := [], alts := [], laidByText := true, laidKinds := [.data, .data], laidTests := true, laidLooks := .later }
def TranslateLessCardSaid : Prop := Claim7.holds Tryz.pinned (.plain (OpenSpec.ofChange translateLessSpec)) translateLessCard

/-- THE TIED CARD OF 'midrangelaw16.TranslateMaps'. -/
def translateMapsCard : Claim7 := { stood := { row := translateMapsRow, standIns := [], harness := (true, "f23e674357428057a511d4a4b670af1582f39bc358630154f3e537ad2cf99aff"), looks := false }, kinds := [], alts := [], laidByText := true, laidKinds := [.data, .data], laidTests := true, laidLooks := .later }
def TranslateMapsCardSaid : Prop := Claim7.holds Tryz.pinned (.plain (OpenSpec.ofChange translateMapsSpec)) translateMapsCard

/-- THE TIED CARD OF 'midrangelaw16.TranslateAccepts'. -/
def translateAcceptsCard : Claim7 := { stood := { row := translateAcceptsRow, standIns := [], harness := (true, "f23e674357428057a511d4a4b670af1582f39bc358630154f3e537ad2cf99aff"), looks := false }, kinds := [], alts := [], laidByText := true, laidKinds := [.data, .data], laidTests := true, laidLooks := .later }
def TranslateAcceptsCardSaid : Prop := Claim7.holds Tryz.pinned (.plain (OpenSpec.ofChange translateAcceptsSpec)) translateAcceptsCard

/-- THE SECOND FORM's CARD OF 'midrangelaw16.TranslateFacts'. -/
def translateFactsUptoCard : Claim7 := { stood := { row := translateFactsUptoRow, standIns := [], harness := (true, "f23e674357428057a511d4a4b670af1582f39bc358630154f3e537ad2cf99aff"), looks := false }, kinds := [], alts := [], laidByText := true, laidKinds := [.data, .data], laidTests := true, laidLooks := .later }
def TranslateFactsUptoCardSaid : Prop := Claim7.holds Tryz.pinned (.plain (OpenSpec.upto translateFactsSpec)) translateFactsUptoCard

/-- THE SECOND FORM's CARD OF 'midrangelaw16.TranslateLess'. -/
def translateLessUptoCard : Claim7 := { stood := { row := translateLessUptoRow, standIns := [], harness := (true, "f23e674357428057a511d4a4b670af1582f39bc358630154f3e537ad2cf99aff"), looks := false }, kinds := [], alts := [], laidByText := true, laidKinds := [.data, .data], laidTests := true, laidLooks := .later }
def TranslateLessUptoCardSaid : Prop := Claim7.holds Tryz.pinned (.plain (OpenSpec.upto translateLessSpec)) translateLessUptoCard

/-- THE SECOND FORM's CARD OF 'midrangelaw16.TranslateMaps'. -/
def translateMapsUptoCard : Claim7 := { stood := { row := translateMapsUptoRow, standIns := [], harness := (true, "f23e674357428057a511d4a4b670af1582f39bc358630154f3e537ad2cf99aff"), looks := false }, kinds := [], alts := [], laidByText := true, laidKinds := [.data, .data], laidTests := true, laidLooks := .later }
def TranslateMapsUptoCardSaid : Prop := Claim7.holds Tryz.pinned (.plain (OpenSpec.upto translateMapsSpec)) translateMapsUptoCard

/-- THE SECOND FORM's CARD OF 'midrangelaw16.TranslateAccepts'. -/
def translateAcceptsUptoCard : Claim7 := { stood := { row := translateAcceptsUptoRow, standIns := [], harness := (true, "f23e674357428057a511d4a4b670af1582f39bc358630154f3e537ad2cf99aff"), looks := false }, kinds := [], alts := [], laidByText := true, laidKinds := [.data, .data], laidTests := true, laidLooks := .later }
def TranslateAcceptsUptoCardSaid : Prop := Claim7.holds Tryz.pinned (.plain (OpenSpec.upto translateAcceptsSpec)) translateAcceptsUptoCard
end Rows
end Go.Proofs.YtnpfkhdbmlhfhaaGreatDoor
