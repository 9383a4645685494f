/-
  DERIVED. GIVEN WITH THE SEED: THE CARDS: each row of YtblgefddnnlniaaGreatDoorRows.lean that lists a variable, with what it lists TIED to the program's text (the seventh form; the later family's looks); each row that meets fmt, with fmt's text TOLD by the authors' own Lean function (tested against real Go, not proved from fmt's source: count such statements apart). THE CARD IS WHAT COUNTS. Prove the row's statement (the work); the ties are given (YtblgefddnnlniaaGreatDoorTie.lean); close each card by the builder's one call (the guide's Derived/Test/ToyasCard.lean, 'card_holds'). Laid BY PROGRAM, IN A SANDBOX (cutbox-door.mjs). By AI agents, Wed Nov 11 2026. No macro, syntax, notation, axiom, sorry.
-/
import Derived.Test.YtblgefddnnlniaaGreatDoorRows
import GoSem.ClaimSeven
namespace Go.Proofs.YtblgefddnnlniaaGreatDoor
namespace Rows

/-- THE TIED CARD OF 'midrangelaw16.TranslateFacts'. -/
def translateFactsCard : Claim7 := { stood := { row := translateFactsRow, standIns := [], harness := (true, "f1d03b1c4aa1a9d23d86cf3e37a31ddda9662b028758befeea004bb3c4e3cafc"), looks := false }, kinds := [], alts := [], laidByText := true, laidKinds := [.data, .data], laidTests := true, laidLooks := .later }
def TranslateFactsCardSaid : Prop := Claim7.holds Tryz.pinned (.plain (OpenSpec.ofChange translateFactsSpec)) translateFactsCard

/-- THE TIED CARD OF 'midrangelaw16.TranslateOptimizes'. -/
def translateOptimizesCard : Claim7 := { stood := { row := translateOptimizesRow, standIns := [], harness := (true, "f1d03b1c4aa1a9d23d86cf3e37a31ddda9662b028758befeea004bb3c4e3cafc"), looks := false }, kinds := [], alts := [], laidByText := true, laidKinds := [.data, .data], laidTests := true, laidLooks := .later }
def TranslateOptimizesCardSaid : Prop := Claim7.holds Tryz.pinned (.plain (OpenSpec.ofChange translateOptimizesSpec)) translateOptimizesCard

/-- THE TIED CARD OF 'midrangelaw16.TranslateProofs'. -/
def translateProofsCard : Claim7 := { stood := { row := translateProofsRow, standIns := [], harness := (true, "f1d03b1c4aa1a9d23d86cf3e37a31ddda9662b028758befeea004bb3c4e3cafc"), looks := false }, kinds := [], alts := [], laidByText := true, laidKinds := [.data, .data], laidTests := true, laidLooks := .later }
def TranslateProofsCardSaid : Prop := Claim7.holds Tryz.pinned (.plain (OpenSpec.ofChange translateProofsSpec)) translateProofsCard

/-- THE TIED CARD OF 'midrangelaw16.TranslateLive'. -/
def translateLiveCard : Claim7 := { stood := { row := translateLiveRow, standIns := [], harness := (true, "f1d03b1c4aa1a9d23d86cf3e37a31ddda9662b028758befeea004bb3c4e3cafc"), looks := false }, kinds := [], alts := [], laidByText := true, laidKinds := [.data, .data], laidTests := true, laidLooks := .later }
def TranslateLiveCardSaid : Prop := Claim7.holds Tryz.pinned (.plain (OpenSpec.ofChange translateLiveSpec)) translateLiveCard

/-- THE SECOND FORM's CARD OF 'midrangelaw16.TranslateFacts'. -/
def translateFactsUptoCard : Claim7 := { stood := { row := translateFactsUptoRow, standIns := [], harness := (true, "f1d03b1c4aa1a9d23d86cf3e37a31ddda9662b028758befeea004bb3c4e3cafc"), looks := false }, kinds := [], alts := [], laidByText := true, laidKinds := [.data, .data], laidTests := true, laidLooks := .later }
def TranslateFactsUptoCardSaid : Prop := Claim7.holds Tryz.pinned (.plain (OpenSpec.upto translateFactsSpec)) translateFactsUptoCard

/-- THE SECOND FORM's CARD OF 'midrangelaw16.TranslateOptimizes'. -/
def translateOptimizesUptoCard : Claim7 := { stood := { row := translateOptimizesUptoRow, standIns := [], harness := (true, "f1d03b1c4aa1a9d23d86cf3e37a31ddda9662b028758befeea004bb3c4e3cafc"), looks := false }, kinds := [], alts := [], laidByText := true, laidKinds := [.data, .data], laidTests := true, laidLooks := .later }
def TranslateOptimizesUptoCardSaid : Prop := Claim7.holds Tryz.pinned (.plain (OpenSpec.upto translateOptimizesSpec)) translateOptimizesUptoCard

/-- THE SECOND FORM's CARD OF 'midrangelaw16.TranslateProofs'. -/
def translateProofsUptoCard : Claim7 := { stood := { row := translateProofsUptoRow, standIns := [], harness := (true, "f1d03b1c4aa1a9d23d86cf3e37a31ddda9662b028758befeea004bb3c4e3cafc"), looks := false }, kinds := [], alts := [], laidByText := true, laidKinds := [.data, .data], laidTests := true, laidLooks := .later }
def TranslateProofsUptoCardSaid : Prop := Claim7.holds Tryz.pinned (.plain (OpenSpec.upto translateProofsSpec)) translateProofsUptoCard

/-- THE SECOND FORM's CARD OF 'midrangelaw16.TranslateLive'. -/
def translateLiveUptoCard : Claim7 := { stood := { row := translateLiveUptoRow, standIns := [], harness := (true, "f1d03b1c4aa1a9d23d86cf3e37a31ddda9662b028758befeea004bb3c4e3cafc"), looks := false }, kinds := [], alts := [], laidByText := true, laidKinds := [.data, .data], laidTests := true, laidLooks := .later }
def TranslateLiveUptoCardSaid : Prop := Claim7.holds Tryz.pinned (.plain (OpenSpec.upto translateLiveSpec)) translateLiveUptoCard
end Rows
end Go.Proofs.YtblgefddnnlniaaGreatDoor
