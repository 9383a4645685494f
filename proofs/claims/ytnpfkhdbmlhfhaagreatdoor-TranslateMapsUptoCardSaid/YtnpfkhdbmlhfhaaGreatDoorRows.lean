/-
  NARROWER THAN 'FOR EVERY INPUT', by the rows' own cells (each row's printed sentence says how): TranslateFacts: laid · TranslateLess: laid · TranslateMaps: laid · TranslateAccepts: laid.
  DERIVED. THE GIVEN ROWS OF THIS SEAT. 4 by the template 'for every input the law returns true; each argument reads behind the call as it read before'; 0 by the template 'total and deterministic' (their statements: YtnpfkhdbmlhfhaaGreatDoorTotals.lean).
  GIVEN WITH THE SEED: the statements are not yours to turn. If you find one false, say at which input.
  Laid BY PROGRAM, IN A SANDBOX (cutbox-rows.mjs): the forced cells as the released guide's own fill.sh prints them over the translation ac750f72dd66d7b2… (all of the seat's roots in one cut). By AI agents, Wed Nov 11 2026. No macro, syntax, notation, axiom, sorry.
-/
import Derived.Test.YtnpfkhdbmlhfhaaGreatDoorChecked
import GoSem.Claim
import GoSem.ClaimJoined
import GoSem.ClaimMapViews
import Derived.JoinedTies
import Derived.KernelRfl
namespace Go.Proofs.YtnpfkhdbmlhfhaaGreatDoor
/- THE CELL 'sum', in the pinned program and in every row, IS THE sha256 OF THE DUMP (.gsa) THAT YtnpfkhdbmlhfhaaGreatDoorProg.lean LOADS. Nothing in Lean hashes anything: it is a label: what it is worth is what the hold of that sum in a sandbox is worth. -/
noncomputable def Tryz.pinned : Pinned := { name := "ytnpfkhdbmlhfhaagreatdoor", sum := "ac750f72dd66d7b2d033828225ae478a763894af67a300ec08277441433a9b07", checked := Tryz.checked }
namespace Rows
def none {H : Type} : Left H := { results := [], args := [] }

/- WHAT THE LISTED PACKAGE-LEVEL VARIABLES READ AS WHEN THE CALL BEGINS. Each datum BY PROGRAM (the guide's laid-datum.mjs) off the statement by which the dump's own 'gosem.cut.vars' lays the variable. In a bare row this is a premise. The card (YtnpfkhdbmlhfhaaGreatDoorCards.lean) ties it to the program's text. -/
def laid_midrange_hardware_forms {H : Type} : DataW H := .agg [.agg [.lit (.int .i64 41), .lit (.int .i64 1)], .agg [.lit (.int .i64 169), .lit (.int .i64 1)], .agg [.lit (.int .i64 257), .lit (.int .i64 0)], .agg [.lit (.int .i64 3), .lit (.int .i64 0)], .agg [.lit (.int .i64 32807), .lit (.int .i64 1)], .agg [.lit (.int .i64 6), .lit (.int .i64 0)], .agg [.lit (.int .i64 6144), .lit (.int .i64 0)], .agg [.lit (.int .i64 6150), .lit (.int .i64 0)], .agg [.lit (.int .i64 4096), .lit (.int .i64 0)], .agg [.lit (.int .i64 120), .lit (.int .i64 2)], .agg [.lit (.int .i64 552), .lit (.int .i64 2)], .agg [.lit (.int .i64 120), .lit (.int .i64 2)], .agg [.lit (.int .i64 552), .lit (.int .i64 2)], .agg [.lit (.int .i64 1536), .lit (.int .i64 0)], .agg [.lit (.int .i64 8232), .lit (.int .i64 3)], .agg [.lit (.int .i64 24576), .lit (.int .i64 0)], .agg [.lit (.int .i64 8193), .lit (.int .i64 0)], .agg [.lit (.int .i64 8192), .lit (.int .i64 0)], .agg [.lit (.int .i64 4096), .lit (.int .i64 0)], .agg [.lit (.int .i64 0), .lit (.int .i64 0)], .agg [.lit (.int .i64 1), .lit (.int .i64 0)], .agg [.lit (.int .i64 1), .lit (.int .i64 0)], .agg [.lit (.int .i64 1), .lit (.int .i64 0)], .agg [.lit (.int .i64 40), .lit (.int .i64 2)], .agg [.lit (.int .i64 512), .lit (.int .i64 0)], .agg [.lit (.int .i64 0), .lit (.int .i64 0)], .agg [.lit (.int .i64 0), .lit (.int .i64 0)]]
def laid_midrange_program_operations {H : Type} : DataW H := .agg [.slice [.lit (.int .i64 0), .lit (.int .i64 4)] [], .slice [.lit (.int .i64 2), .lit (.int .i64 3)] [], .slice [.lit (.int .i64 2), .lit (.int .i64 3), .lit (.int .i64 3)] [], .slice [.lit (.int .i64 2), .lit (.int .i64 3), .lit (.int .i64 3)] [], .slice [.lit (.int .i64 2), .lit (.int .i64 3), .lit (.int .i64 3)] [], .slice [.lit (.int .i64 2), .lit (.int .i64 3), .lit (.int .i64 3)] [], .slice [.lit (.int .i64 2), .lit (.int .i64 3), .lit (.int .i64 3)] [], .slice [.lit (.int .i64 1), .lit (.int .i64 4), .lit (.int .i64 6)] [], .slice [.lit (.int .i64 1), .lit (.int .i64 4), .lit (.int .i64 6)] [], .slice [.lit (.int .i64 6)] [], .slice [.lit (.int .i64 5), .lit (.int .i64 0)] [], .slice [.lit (.int .i64 5), .lit (.int .i64 5)] [], .slice [.lit (.int .i64 5), .lit (.int .i64 3)] [], .slice [.lit (.int .i64 6)] [], .slice [] [], .slice [.lit (.int .i64 3)] [], .slice [.lit (.int .i64 2)] [], .slice [.lit (.int .i64 1)] [], .slice [] []]

/-- 'midrangelaw16.TranslateFacts': WHATEVER THE INPUT: true; the input reads as it did. -/
def translateFactsSpec : ChangeSpec := { name := "translateFacts", fn := fun _ => fun
  | [d1, d2] => { results := [.lit (.bool true)], args := [d1, d2] }
  | _ => none }
def translateFactsRow : OpenClaim := { program := "ytnpfkhdbmlhfhaagreatdoor", sum := "ac750f72dd66d7b2d033828225ae478a763894af67a300ec08277441433a9b07", func := "midrange/midrangelaw16.TranslateFacts", spec := "translateFacts", inPlace := ["internal/abi.NoEscape", "internal/bytealg.MakeNoZero"], unfollowed := true, recurses := true, named := ["midrange/hardware.forms", "midrange/program.operations"], apart := false, laid := [("midrange/hardware.forms", laid_midrange_hardware_forms), ("midrange/program.operations", laid_midrange_program_operations)] }
def TranslateFactsSaid : Prop := translateFactsRow.holds Tryz.pinned (OpenSpec.ofChange translateFactsSpec)

/-- ITS FALSE NEIGHBOUR: 'it returns false'. Refute it at one input. -/
def translateFactsWrong : ChangeSpec := { name := "translateFacts", fn := fun _ => fun
  | [d1, d2] => { results := [.lit (.bool false)], args := [d1, d2] }
  | _ => none }
def TranslateFactsWrongFalsely : Prop := translateFactsRow.holds Tryz.pinned (OpenSpec.ofChange translateFactsWrong)

/-- 'midrangelaw16.TranslateLess': WHATEVER THE INPUT: true; the input reads as it did. -/
def translateLessSpec : ChangeSpec := { name := "translateLess", fn := fun _ => fun
  | [d1, d2] => { results := [.lit (.bool true)], args := [d1, d2] }
  | _ => none }
def translateLessRow : OpenClaim := { program := "ytnpfkhdbmlhfhaagreatdoor", sum := "ac750f72dd66d7b2d033828225ae478a763894af67a300ec08277441433a9b07", func := "midrange/midrangelaw16.TranslateLess", spec := "translateLess", inPlace := ["internal/abi.NoEscape", "internal/bytealg.MakeNoZero"], unfollowed := true, recurses := true, named := ["midrange/hardware.forms", "midrange/program.operations"], apart := false, laid := [("midrange/hardware.forms", laid_midrange_hardware_forms), ("midrange/program.operations", laid_midrange_program_operations)] }
def TranslateLessSaid : Prop := translateLessRow.holds Tryz.pinned (OpenSpec.ofChange translateLessSpec)

/-- ITS FALSE NEIGHBOUR: 'it returns false'. Refute it at one input. -/
def translateLessWrong : ChangeSpec := { name := "translateLess", fn := fun _ => fun
  | [d1, d2] => { results := [.lit (.bool false)], args := [d1, d2] }
  | _ => none }
def TranslateLessWrongFalsely : Prop := translateLessRow.holds Tryz.pinned (OpenSpec.ofChange translateLessWrong)

/-- 'midrangelaw16.TranslateMaps': WHATEVER THE INPUT: true; the input reads as it did. -/
def translateMapsSpec : ChangeSpec := { name := "translateMaps", fn := fun _ => fun
  | [d1, d2] => { results := [.lit (.bool true)], args := [d1, d2] }
  | _ => none }
def translateMapsRow : OpenClaim := { program := "ytnpfkhdbmlhfhaagreatdoor", sum := "ac750f72dd66d7b2d033828225ae478a763894af67a300ec08277441433a9b07", func := "midrange/midrangelaw16.TranslateMaps", spec := "translateMaps", inPlace := ["internal/abi.NoEscape", "internal/bytealg.MakeNoZero"], unfollowed := true, recurses := true, named := ["midrange/hardware.forms", "midrange/program.operations"], apart := false, laid := [("midrange/hardware.forms", laid_midrange_hardware_forms), ("midrange/program.operations", laid_midrange_program_operations)] }
def TranslateMapsSaid : Prop := translateMapsRow.holds Tryz.pinned (OpenSpec.ofChange translateMapsSpec)

/-- ITS FALSE NEIGHBOUR: 'it returns false'. Refute it at one input. -/
def translateMapsWrong : ChangeSpec := { name := "translateMaps", fn := fun _ => fun
  | [d1, d2] => { results := [.lit (.bool false)], args := [d1, d2] }
  | _ => none }
def TranslateMapsWrongFalsely : Prop := translateMapsRow.holds Tryz.pinned (OpenSpec.ofChange translateMapsWrong)

/-- 'midrangelaw16.TranslateAccepts': WHATEVER THE INPUT: true; the input reads as it did. -/
def translateAcceptsSpec : ChangeSpec := { name := "translateAccepts", fn := fun _ => fun
  | [d] => { results := [.lit (.bool true)], args := [d] }
  | _ => none }
def translateAcceptsRow : OpenClaim := { program := "ytnpfkhdbmlhfhaagreatdoor", sum := "ac750f72dd66d7b2d033828225ae478a763894af67a300ec08277441433a9b07", func := "midrange/midrangelaw16.TranslateAccepts", spec := "translateAccepts", inPlace := ["internal/abi.NoEscape", "internal/bytealg.MakeNoZero"], unfollowed := true, recurses := true, named := ["midrange/hardware.forms", "midrange/program.operations"], apart := false, laid := [("midrange/hardware.forms", laid_midrange_hardware_forms), ("midrange/program.operations", laid_midrange_program_operations)] }
def TranslateAcceptsSaid : Prop := translateAcceptsRow.holds Tryz.pinned (OpenSpec.ofChange translateAcceptsSpec)

/-- ITS FALSE NEIGHBOUR: 'it returns false'. Refute it at one input. -/
def translateAcceptsWrong : ChangeSpec := { name := "translateAccepts", fn := fun _ => fun
  | [d] => { results := [.lit (.bool false)], args := [d] }
  | _ => none }
def TranslateAcceptsWrongFalsely : Prop := translateAcceptsRow.holds Tryz.pinned (OpenSpec.ofChange translateAcceptsWrong)

/- THE SECOND FORM. 'bulk': how many values and letters a reading holds, each counted each time it is reached (what is shared counts as often as it is met; a slice's spare places count too). A statement '..UptoSaid' is the law's where the arguments, and the package variables that the reading takes, are together of bulk at most 1048576: NARROWER than '..Said'. Prove '..Said' where nothing that the law and all that it calls make is longer than what came in: it says more and counts as full. Else prove '..UptoSaid'. A law counts once. -/
mutual
def uptoBulk {H : Type} : DataW H → Nat
  | .lit (.string bytes) => bytes.length + 1
  | .lit _ => 1
  | .nil => 1
  | .ptr d => uptoBulk d + 1
  | .slice elems spare => uptoBulkAll elems + uptoBulkAll spare + 1
  | .agg parts => uptoBulkAll parts + 1
  | .iface _ d => uptoBulk d + 1
  | .map entries => uptoBulkEntries entries + 1
  | .held _ => 1
def uptoBulkAll {H : Type} : List (DataW H) → Nat
  | [] => 0
  | d :: r => uptoBulk d + uptoBulkAll r
def uptoBulkEntries {H : Type} : List (Lit × DataW H) → Nat
  | [] => 0
  | x :: r => uptoBulkEntry x + uptoBulkEntries r
def uptoBulkEntry {H : Type} : Lit × DataW H → Nat
  | (.string bytes, d) => bytes.length + uptoBulk d + 1
  | (_, d) => uptoBulk d + 1
 end
def uptoSmall : (H : Type) → List (DataW H) → Bool := fun _ ds => decide (uptoBulkAll ds ≤ 1048576)
def OpenSpec.upto (s : _root_.Go.ChangeSpec) : _root_.Go.OpenSpec := { _root_.Go.OpenSpec.ofChange s with cond := some uptoSmall }

/-- 'midrangelaw16.TranslateFacts', WHERE WHAT IT READS IS OF BULK AT MOST 1048576: true; the input reads as it did. -/
def translateFactsUptoRow : OpenClaim := { program := "ytnpfkhdbmlhfhaagreatdoor", sum := "ac750f72dd66d7b2d033828225ae478a763894af67a300ec08277441433a9b07", func := "midrange/midrangelaw16.TranslateFacts", spec := "translateFacts", inPlace := ["internal/abi.NoEscape", "internal/bytealg.MakeNoZero"], unfollowed := true, recurses := true, named := ["midrange/hardware.forms", "midrange/program.operations"], apart := false, laid := [("midrange/hardware.forms", laid_midrange_hardware_forms), ("midrange/program.operations", laid_midrange_program_operations)], narrowed := true }
def TranslateFactsUptoSaid : Prop := translateFactsUptoRow.holds Tryz.pinned (OpenSpec.upto translateFactsSpec)

/-- 'midrangelaw16.TranslateLess', WHERE WHAT IT READS IS OF BULK AT MOST 1048576: true; the input reads as it did. -/
def translateLessUptoRow : OpenClaim := { program := "ytnpfkhdbmlhfhaagreatdoor", sum := "ac750f72dd66d7b2d033828225ae478a763894af67a300ec08277441433a9b07", func := "midrange/midrangelaw16.TranslateLess", spec := "translateLess", inPlace := ["internal/abi.NoEscape", "internal/bytealg.MakeNoZero"], unfollowed := true, recurses := true, named := ["midrange/hardware.forms", "midrange/program.operations"], apart := false, laid := [("midrange/hardware.forms", laid_midrange_hardware_forms), ("midrange/program.operations", laid_midrange_program_operations)], narrowed := true }
def TranslateLessUptoSaid : Prop := translateLessUptoRow.holds Tryz.pinned (OpenSpec.upto translateLessSpec)

/-- 'midrangelaw16.TranslateMaps', WHERE WHAT IT READS IS OF BULK AT MOST 1048576: true; the input reads as it did. -/
def translateMapsUptoRow : OpenClaim := { program := "ytnpfkhdbmlhfhaagreatdoor", sum := "ac750f72dd66d7b2d033828225ae478a763894af67a300ec08277441433a9b07", func := "midrange/midrangelaw16.TranslateMaps", spec := "translateMaps", inPlace := ["internal/abi.NoEscape", "internal/bytealg.MakeNoZero"], unfollowed := true, recurses := true, named := ["midrange/hardware.forms", "midrange/program.operations"], apart := false, laid := [("midrange/hardware.forms", laid_midrange_hardware_forms), ("midrange/program.operations", laid_midrange_program_operations)], narrowed := true }
def TranslateMapsUptoSaid : Prop := translateMapsUptoRow.holds Tryz.pinned (OpenSpec.upto translateMapsSpec)

/-- 'midrangelaw16.TranslateAccepts', WHERE WHAT IT READS IS OF BULK AT MOST 1048576: true; the input reads as it did. -/
def translateAcceptsUptoRow : OpenClaim := { program := "ytnpfkhdbmlhfhaagreatdoor", sum := "ac750f72dd66d7b2d033828225ae478a763894af67a300ec08277441433a9b07", func := "midrange/midrangelaw16.TranslateAccepts", spec := "translateAccepts", inPlace := ["internal/abi.NoEscape", "internal/bytealg.MakeNoZero"], unfollowed := true, recurses := true, named := ["midrange/hardware.forms", "midrange/program.operations"], apart := false, laid := [("midrange/hardware.forms", laid_midrange_hardware_forms), ("midrange/program.operations", laid_midrange_program_operations)], narrowed := true }
def TranslateAcceptsUptoSaid : Prop := translateAcceptsUptoRow.holds Tryz.pinned (OpenSpec.upto translateAcceptsSpec)

end Rows
end Go.Proofs.YtnpfkhdbmlhfhaaGreatDoor
