/-
  DERIVED. GIVEN WITH THE SEED: THE CARDS: each row of YtbmfjmakahmclaaGreatDoorRows.lean that lists a variable, with what it lists TIED to the program's text (the seventh form; the later family's looks); each row that meets fmt, with fmt's text TOLD by the authors' own Lean function (tested against real Go, not proved from fmt's source: count such statements apart). THE CARD IS WHAT COUNTS. Prove the row's statement (the work); the ties are given (YtbmfjmakahmclaaGreatDoorTie.lean); close each card by the builder's one call (the guide's Derived/Test/ToyasCard.lean, 'card_holds'). Laid BY PROGRAM, IN A SANDBOX (cutbox-door.mjs). By AI agents, Wed Nov 11 2026. No macro, syntax, notation, axiom, sorry.
-/
import Derived.Test.YtbmfjmakahmclaaGreatDoorRows
import GoSem.ClaimSeven
namespace Go.Proofs.YtbmfjmakahmclaaGreatDoor
namespace Rows

/-- THE TIED CARD OF 'midrangelaw16.TranslateTrue'. -/
def translateTrueCard : Claim7 := { stood := { row := translateTrueRow, standIns := [], harness := (true, "6c9a87e36e6d0d70f2c3ffe6befcc949058e7cbec0080cfd903fbb49a4fd7ad5"), looks := false }, kinds := [], alts := [], laidByText := true, laidKinds := [.data, .data], laidTests := true, laidLooks := .later }
def TranslateTrueCardSaid : Prop := Claim7.holds Tryz.pinned (.plain (OpenSpec.ofChange translateTrueSpec)) translateTrueCard

/-- THE TIED CARD OF 'midrangelaw16.TranslateSame'. -/
def translateSameCard : Claim7 := { stood := { row := translateSameRow, standIns := [], harness := (true, "6c9a87e36e6d0d70f2c3ffe6befcc949058e7cbec0080cfd903fbb49a4fd7ad5"), looks := false }, kinds := [], alts := [], laidByText := true, laidKinds := [.data, .data, .data, .data, .data], laidTests := true, laidLooks := .later }
def TranslateSameCardSaid : Prop := Claim7.holds Tryz.pinned (.plain (OpenSpec.ofChange translateSameSpec)) translateSameCard

/-- THE SECOND FORM's CARD OF 'midrangelaw16.TranslateTrue'. -/
def translateTrueUptoCard : Claim7 := { stood := { row := translateTrueUptoRow, standIns := [], harness := (true, "6c9a87e36e6d0d70f2c3ffe6befcc949058e7cbec0080cfd903fbb49a4fd7ad5"), looks := false }, kinds := [], alts := [], laidByText := true, laidKinds := [.data, .data], laidTests := true, laidLooks := .later }
def TranslateTrueUptoCardSaid : Prop := Claim7.holds Tryz.pinned (.plain (OpenSpec.upto translateTrueSpec)) translateTrueUptoCard

/-- THE SECOND FORM's CARD OF 'midrangelaw16.TranslateSame'. -/
def translateSameUptoCard : Claim7 := { stood := { row := translateSameUptoRow, standIns := [], harness := (true, "6c9a87e36e6d0d70f2c3ffe6befcc949058e7cbec0080cfd903fbb49a4fd7ad5"), looks := false }, kinds := [], alts := [], laidByText := true, laidKinds := [.data, .data, .data, .data, .data], laidTests := true, laidLooks := .later }
def TranslateSameUptoCardSaid : Prop := Claim7.holds Tryz.pinned (.plain (OpenSpec.upto translateSameSpec)) translateSameUptoCard
end Rows
end Go.Proofs.YtbmfjmakahmclaaGreatDoor
