/-
  NARROWER THAN 'FOR EVERY INPUT', by the rows' own cells (each row's printed sentence says how): InterpretTraces: laid · InterpretTags: laid · InterpretHandlers: laid · InterpretStates: laid · InterpretSteps: laid · InterpretUnchanged: laid · InterpretAgain: laid · InterpretOperands: laid.
  DERIVED. THE GIVEN ROWS OF THIS SEAT. 8 by the template 'for every input the law returns true; each argument reads behind the call as it read before'; 0 by the template 'total and deterministic' (their statements: YtmifhmfokbigiaaGreatDoorTotals.lean).
  GIVEN WITH THE SEED: the statements are not yours to turn. If you find one false, say at which input.
  Laid BY PROGRAM, IN A SANDBOX (cutbox-rows.mjs): the forced cells as the released guide's own fill.sh prints them over the translation 82af1ccdf6050421… (all of the seat's roots in one cut). By AI agents, Wed Nov 11 2026. No macro, syntax, notation, axiom, sorry.
-/
import Derived.Test.YtmifhmfokbigiaaGreatDoorChecked
import GoSem.Claim
import GoSem.ClaimJoined
import GoSem.ClaimMapViews
import Derived.JoinedTies
import Derived.KernelRfl
namespace Go.Proofs.YtmifhmfokbigiaaGreatDoor
/- THE CELL 'sum', in the pinned program and in every row, IS THE sha256 OF THE DUMP (.gsa) THAT YtmifhmfokbigiaaGreatDoorProg.lean LOADS. Nothing in Lean hashes anything: it is a label: what it is worth is what the hold of that sum in a sandbox is worth. -/
noncomputable def Tryz.pinned : Pinned := { name := "ytmifhmfokbigiaagreatdoor", sum := "82af1ccdf60504218f4346e9015cf0ef41d2aaf29fba148bf59af8085ca47f25", checked := Tryz.checked }
namespace Rows
def none {H : Type} : Left H := { results := [], args := [] }

/- WHAT THE LISTED PACKAGE-LEVEL VARIABLES READ AS WHEN THE CALL BEGINS. Each datum BY PROGRAM (the guide's laid-datum.mjs) off the statement by which the dump's own 'gosem.cut.vars' lays the variable. In a bare row this is a premise. The card (YtmifhmfokbigiaaGreatDoorCards.lean) ties it to the program's text. -/
def laid_math_bits_deBruijn32tab {H : Type} : DataW H := .agg [.lit (.int .u8 0), .lit (.int .u8 1), .lit (.int .u8 28), .lit (.int .u8 2), .lit (.int .u8 29), .lit (.int .u8 14), .lit (.int .u8 24), .lit (.int .u8 3), .lit (.int .u8 30), .lit (.int .u8 22), .lit (.int .u8 20), .lit (.int .u8 15), .lit (.int .u8 25), .lit (.int .u8 17), .lit (.int .u8 4), .lit (.int .u8 8), .lit (.int .u8 31), .lit (.int .u8 27), .lit (.int .u8 13), .lit (.int .u8 23), .lit (.int .u8 21), .lit (.int .u8 19), .lit (.int .u8 16), .lit (.int .u8 7), .lit (.int .u8 26), .lit (.int .u8 12), .lit (.int .u8 18), .lit (.int .u8 6), .lit (.int .u8 11), .lit (.int .u8 5), .lit (.int .u8 10), .lit (.int .u8 9)]
def laid_math_bits_deBruijn64tab {H : Type} : DataW H := .agg [.lit (.int .u8 0), .lit (.int .u8 1), .lit (.int .u8 56), .lit (.int .u8 2), .lit (.int .u8 57), .lit (.int .u8 49), .lit (.int .u8 28), .lit (.int .u8 3), .lit (.int .u8 61), .lit (.int .u8 58), .lit (.int .u8 42), .lit (.int .u8 50), .lit (.int .u8 38), .lit (.int .u8 29), .lit (.int .u8 17), .lit (.int .u8 4), .lit (.int .u8 62), .lit (.int .u8 47), .lit (.int .u8 59), .lit (.int .u8 36), .lit (.int .u8 45), .lit (.int .u8 43), .lit (.int .u8 51), .lit (.int .u8 22), .lit (.int .u8 53), .lit (.int .u8 39), .lit (.int .u8 33), .lit (.int .u8 30), .lit (.int .u8 24), .lit (.int .u8 18), .lit (.int .u8 12), .lit (.int .u8 5), .lit (.int .u8 63), .lit (.int .u8 55), .lit (.int .u8 48), .lit (.int .u8 27), .lit (.int .u8 60), .lit (.int .u8 41), .lit (.int .u8 37), .lit (.int .u8 16), .lit (.int .u8 46), .lit (.int .u8 35), .lit (.int .u8 44), .lit (.int .u8 21), .lit (.int .u8 52), .lit (.int .u8 32), .lit (.int .u8 23), .lit (.int .u8 11), .lit (.int .u8 54), .lit (.int .u8 26), .lit (.int .u8 40), .lit (.int .u8 15), .lit (.int .u8 34), .lit (.int .u8 20), .lit (.int .u8 31), .lit (.int .u8 10), .lit (.int .u8 25), .lit (.int .u8 14), .lit (.int .u8 19), .lit (.int .u8 9), .lit (.int .u8 13), .lit (.int .u8 8), .lit (.int .u8 7), .lit (.int .u8 6)]
def laid_internal_strconv_uint64pow10 {H : Type} : DataW H := .agg [.lit (.int .u64 1), .lit (.int .u64 10), .lit (.int .u64 100), .lit (.int .u64 1000), .lit (.int .u64 10000), .lit (.int .u64 100000), .lit (.int .u64 1000000), .lit (.int .u64 10000000), .lit (.int .u64 100000000), .lit (.int .u64 1000000000), .lit (.int .u64 10000000000), .lit (.int .u64 100000000000), .lit (.int .u64 1000000000000), .lit (.int .u64 10000000000000), .lit (.int .u64 100000000000000), .lit (.int .u64 1000000000000000), .lit (.int .u64 10000000000000000), .lit (.int .u64 100000000000000000), .lit (.int .u64 1000000000000000000), .lit (.int .u64 10000000000000000000)]
def laid_midrange_program_operations {H : Type} : DataW H := .agg [.slice [.lit (.int .i64 0), .lit (.int .i64 4)] [], .slice [.lit (.int .i64 2), .lit (.int .i64 3)] [], .slice [.lit (.int .i64 2), .lit (.int .i64 3), .lit (.int .i64 3)] [], .slice [.lit (.int .i64 2), .lit (.int .i64 3), .lit (.int .i64 3)] [], .slice [.lit (.int .i64 2), .lit (.int .i64 3), .lit (.int .i64 3)] [], .slice [.lit (.int .i64 2), .lit (.int .i64 3), .lit (.int .i64 3)] [], .slice [.lit (.int .i64 2), .lit (.int .i64 3), .lit (.int .i64 3)] [], .slice [.lit (.int .i64 1), .lit (.int .i64 4), .lit (.int .i64 6)] [], .slice [.lit (.int .i64 1), .lit (.int .i64 4), .lit (.int .i64 6)] [], .slice [.lit (.int .i64 6)] [], .slice [.lit (.int .i64 5), .lit (.int .i64 0)] [], .slice [.lit (.int .i64 5), .lit (.int .i64 5)] [], .slice [.lit (.int .i64 5), .lit (.int .i64 3)] [], .slice [.lit (.int .i64 6)] [], .slice [] [], .slice [.lit (.int .i64 3)] [], .slice [.lit (.int .i64 2)] [], .slice [.lit (.int .i64 1)] [], .slice [] []]

/-- 'midrangelaw14.InterpretTraces': WHATEVER THE INPUT: true; the input reads as it did. -/
def interpretTracesSpec : ChangeSpec := { name := "interpretTraces", fn := fun _ => fun
  | [d1, d2] => { results := [.lit (.bool true)], args := [d1, d2] }
  | _ => none }
def interpretTracesRow : OpenClaim := { program := "ytmifhmfokbigiaagreatdoor", sum := "82af1ccdf60504218f4346e9015cf0ef41d2aaf29fba148bf59af8085ca47f25", func := "midrange/midrangelaw14.InterpretTraces", spec := "interpretTraces", inPlace := ["internal/abi.NoEscape", "internal/bytealg.MakeNoZero", "math/bits.Add64", "math/bits.Sub64", "internal/bytealg.abigen_runtime_cmpstring"], unfollowed := true, recurses := true, named := ["midrange/program.operations", "internal/strconv.uint64pow10", "math/bits.deBruijn32tab", "math/bits.deBruijn64tab"], apart := false, laid := [("math/bits.deBruijn32tab", laid_math_bits_deBruijn32tab), ("math/bits.deBruijn64tab", laid_math_bits_deBruijn64tab), ("internal/strconv.uint64pow10", laid_internal_strconv_uint64pow10), ("midrange/program.operations", laid_midrange_program_operations)] }
def InterpretTracesSaid : Prop := interpretTracesRow.holds Tryz.pinned (OpenSpec.ofChange interpretTracesSpec)

/-- ITS FALSE NEIGHBOUR: 'it returns false'. Refute it at one input. -/
def interpretTracesWrong : ChangeSpec := { name := "interpretTraces", fn := fun _ => fun
  | [d1, d2] => { results := [.lit (.bool false)], args := [d1, d2] }
  | _ => none }
def InterpretTracesWrongFalsely : Prop := interpretTracesRow.holds Tryz.pinned (OpenSpec.ofChange interpretTracesWrong)

/-- 'midrangelaw14.InterpretTags': WHATEVER THE INPUT: true; the input reads as it did. -/
def interpretTagsSpec : ChangeSpec := { name := "interpretTags", fn := fun _ => fun
  | [d] => { results := [.lit (.bool true)], args := [d] }
  | _ => none }
def interpretTagsRow : OpenClaim := { program := "ytmifhmfokbigiaagreatdoor", sum := "82af1ccdf60504218f4346e9015cf0ef41d2aaf29fba148bf59af8085ca47f25", func := "midrange/midrangelaw14.InterpretTags", spec := "interpretTags", inPlace := ["internal/abi.NoEscape", "internal/bytealg.MakeNoZero", "math/bits.Add64", "math/bits.Sub64", "internal/bytealg.abigen_runtime_cmpstring"], unfollowed := true, recurses := true, named := ["midrange/program.operations", "internal/strconv.uint64pow10", "math/bits.deBruijn32tab", "math/bits.deBruijn64tab"], apart := false, laid := [("math/bits.deBruijn32tab", laid_math_bits_deBruijn32tab), ("math/bits.deBruijn64tab", laid_math_bits_deBruijn64tab), ("internal/strconv.uint64pow10", laid_internal_strconv_uint64pow10), ("midrange/program.operations", laid_midrange_program_operations)] }
def InterpretTagsSaid : Prop := interpretTagsRow.holds Tryz.pinned (OpenSpec.ofChange interpretTagsSpec)

/-- ITS FALSE NEIGHBOUR: 'it returns false'. Refute it at one input. -/
def interpretTagsWrong : ChangeSpec := { name := "interpretTags", fn := fun _ => fun
  | [d] => { results := [.lit (.bool false)], args := [d] }
  | _ => none }
def InterpretTagsWrongFalsely : Prop := interpretTagsRow.holds Tryz.pinned (OpenSpec.ofChange interpretTagsWrong)

/-- 'midrangelaw14.InterpretHandlers': WHATEVER THE INPUT: true; the input reads as it did. -/
def interpretHandlersSpec : ChangeSpec := { name := "interpretHandlers", fn := fun _ => fun
  | [d1, d2, d3] => { results := [.lit (.bool true)], args := [d1, d2, d3] }
  | _ => none }
def interpretHandlersRow : OpenClaim := { program := "ytmifhmfokbigiaagreatdoor", sum := "82af1ccdf60504218f4346e9015cf0ef41d2aaf29fba148bf59af8085ca47f25", func := "midrange/midrangelaw14.InterpretHandlers", spec := "interpretHandlers", inPlace := ["internal/abi.NoEscape", "internal/bytealg.MakeNoZero", "math/bits.Add64", "math/bits.Sub64", "internal/bytealg.abigen_runtime_cmpstring"], unfollowed := true, recurses := true, named := ["midrange/program.operations", "internal/strconv.uint64pow10", "math/bits.deBruijn32tab", "math/bits.deBruijn64tab"], apart := false, laid := [("math/bits.deBruijn32tab", laid_math_bits_deBruijn32tab), ("math/bits.deBruijn64tab", laid_math_bits_deBruijn64tab), ("internal/strconv.uint64pow10", laid_internal_strconv_uint64pow10), ("midrange/program.operations", laid_midrange_program_operations)] }
def InterpretHandlersSaid : Prop := interpretHandlersRow.holds Tryz.pinned (OpenSpec.ofChange interpretHandlersSpec)

/-- ITS FALSE NEIGHBOUR: 'it returns false'. Refute it at one input. -/
def interpretHandlersWrong : ChangeSpec := { name := "interpretHandlers", fn := fun _ => fun
  | [d1, d2, d3] => { results := [.lit (.bool false)], args := [d1, d2, d3] }
  | _ => none }
def InterpretHandlersWrongFalsely : Prop := interpretHandlersRow.holds Tryz.pinned (OpenSpec.ofChange interpretHandlersWrong)

/-- 'midrangelaw14.InterpretStates': WHATEVER THE INPUT: true; the input reads as it did. -/
def interpretStatesSpec : ChangeSpec := { name := "interpretStates", fn := fun _ => fun
  | [d1, d2] => { results := [.lit (.bool true)], args := [d1, d2] }
  | _ => none }
def interpretStatesRow : OpenClaim := { program := "ytmifhmfokbigiaagreatdoor", sum := "82af1ccdf60504218f4346e9015cf0ef41d2aaf29fba148bf59af8085ca47f25", func := "midrange/midrangelaw14.InterpretStates", spec := "interpretStates", inPlace := ["internal/abi.NoEscape", "internal/bytealg.MakeNoZero", "math/bits.Add64", "math/bits.Sub64", "internal/bytealg.abigen_runtime_cmpstring"], unfollowed := true, recurses := true, named := ["midrange/program.operations", "internal/strconv.uint64pow10", "math/bits.deBruijn32tab", "math/bits.deBruijn64tab"], apart := false, laid := [("math/bits.deBruijn32tab", laid_math_bits_deBruijn32tab), ("math/bits.deBruijn64tab", laid_math_bits_deBruijn64tab), ("internal/strconv.uint64pow10", laid_internal_strconv_uint64pow10), ("midrange/program.operations", laid_midrange_program_operations)] }
def InterpretStatesSaid : Prop := interpretStatesRow.holds Tryz.pinned (OpenSpec.ofChange interpretStatesSpec)

/-- ITS FALSE NEIGHBOUR: 'it returns false'. Refute it at one input. -/
def interpretStatesWrong : ChangeSpec := { name := "interpretStates", fn := fun _ => fun
  | [d1, d2] => { results := [.lit (.bool false)], args := [d1, d2] }
  | _ => none }
def InterpretStatesWrongFalsely : Prop := interpretStatesRow.holds Tryz.pinned (OpenSpec.ofChange interpretStatesWrong)

/-- 'midrangelaw14.InterpretSteps': WHATEVER THE INPUT: true; the input reads as it did. -/
def interpretStepsSpec : ChangeSpec := { name := "interpretSteps", fn := fun _ => fun
  | [d1, d2] => { results := [.lit (.bool true)], args := [d1, d2] }
  | _ => none }
def interpretStepsRow : OpenClaim := { program := "ytmifhmfokbigiaagreatdoor", sum := "82af1ccdf60504218f4346e9015cf0ef41d2aaf29fba148bf59af8085ca47f25", func := "midrange/midrangelaw14.InterpretSteps", spec := "interpretSteps", inPlace := ["internal/abi.NoEscape", "internal/bytealg.MakeNoZero", "math/bits.Add64", "math/bits.Sub64", "internal/bytealg.abigen_runtime_cmpstring"], unfollowed := true, recurses := true, named := ["midrange/program.operations", "internal/strconv.uint64pow10", "math/bits.deBruijn32tab", "math/bits.deBruijn64tab"], apart := false, laid := [("math/bits.deBruijn32tab", laid_math_bits_deBruijn32tab), ("math/bits.deBruijn64tab", laid_math_bits_deBruijn64tab), ("internal/strconv.uint64pow10", laid_internal_strconv_uint64pow10), ("midrange/program.operations", laid_midrange_program_operations)] }
def InterpretStepsSaid : Prop := interpretStepsRow.holds Tryz.pinned (OpenSpec.ofChange interpretStepsSpec)

/-- ITS FALSE NEIGHBOUR: 'it returns false'. Refute it at one input. -/
def interpretStepsWrong : ChangeSpec := { name := "interpretSteps", fn := fun _ => fun
  | [d1, d2] => { results := [.lit (.bool false)], args := [d1, d2] }
  | _ => none }
def InterpretStepsWrongFalsely : Prop := interpretStepsRow.holds Tryz.pinned (OpenSpec.ofChange interpretStepsWrong)

/-- 'midrangelaw14.InterpretUnchanged': WHATEVER THE INPUT: true; the input reads as it did. -/
def interpretUnchangedSpec : ChangeSpec := { name := "interpretUnchanged", fn := fun _ => fun
  | [d1, d2] => { results := [.lit (.bool true)], args := [d1, d2] }
  | _ => none }
def interpretUnchangedRow : OpenClaim := { program := "ytmifhmfokbigiaagreatdoor", sum := "82af1ccdf60504218f4346e9015cf0ef41d2aaf29fba148bf59af8085ca47f25", func := "midrange/midrangelaw14.InterpretUnchanged", spec := "interpretUnchanged", inPlace := ["internal/abi.NoEscape", "internal/bytealg.MakeNoZero", "math/bits.Add64", "math/bits.Sub64", "internal/bytealg.abigen_runtime_cmpstring"], unfollowed := true, recurses := true, named := ["midrange/program.operations", "internal/strconv.uint64pow10", "math/bits.deBruijn32tab", "math/bits.deBruijn64tab"], apart := false, laid := [("math/bits.deBruijn32tab", laid_math_bits_deBruijn32tab), ("math/bits.deBruijn64tab", laid_math_bits_deBruijn64tab), ("internal/strconv.uint64pow10", laid_internal_strconv_uint64pow10), ("midrange/program.operations", laid_midrange_program_operations)] }
def InterpretUnchangedSaid : Prop := interpretUnchangedRow.holds Tryz.pinned (OpenSpec.ofChange interpretUnchangedSpec)

/-- ITS FALSE NEIGHBOUR: 'it returns false'. Refute it at one input. -/
def interpretUnchangedWrong : ChangeSpec := { name := "interpretUnchanged", fn := fun _ => fun
  | [d1, d2] => { results := [.lit (.bool false)], args := [d1, d2] }
  | _ => none }
def InterpretUnchangedWrongFalsely : Prop := interpretUnchangedRow.holds Tryz.pinned (OpenSpec.ofChange interpretUnchangedWrong)

/-- 'midrangelaw14.InterpretAgain': WHATEVER THE INPUT: true; the input reads as it did. -/
def interpretAgainSpec : ChangeSpec := { name := "interpretAgain", fn := fun _ => fun
  | [d] => { results := [.lit (.bool true)], args := [d] }
  | _ => none }
def interpretAgainRow : OpenClaim := { program := "ytmifhmfokbigiaagreatdoor", sum := "82af1ccdf60504218f4346e9015cf0ef41d2aaf29fba148bf59af8085ca47f25", func := "midrange/midrangelaw14.InterpretAgain", spec := "interpretAgain", inPlace := ["internal/abi.NoEscape", "internal/bytealg.MakeNoZero", "math/bits.Add64", "math/bits.Sub64", "internal/bytealg.abigen_runtime_cmpstring"], unfollowed := true, recurses := true, named := ["midrange/program.operations", "internal/strconv.uint64pow10", "math/bits.deBruijn32tab", "math/bits.deBruijn64tab"], apart := false, laid := [("math/bits.deBruijn32tab", laid_math_bits_deBruijn32tab), ("math/bits.deBruijn64tab", laid_math_bits_deBruijn64tab), ("internal/strconv.uint64pow10", laid_internal_strconv_uint64pow10), ("midrange/program.operations", laid_midrange_program_operations)] }
def InterpretAgainSaid : Prop := interpretAgainRow.holds Tryz.pinned (OpenSpec.ofChange interpretAgainSpec)

/-- ITS FALSE NEIGHBOUR: 'it returns false'. Refute it at one input. -/
def interpretAgainWrong : ChangeSpec := { name := "interpretAgain", fn := fun _ => fun
  | [d] => { results := [.lit (.bool false)], args := [d] }
  | _ => none }
def InterpretAgainWrongFalsely : Prop := interpretAgainRow.holds Tryz.pinned (OpenSpec.ofChange interpretAgainWrong)

/-- 'midrangelaw14.InterpretOperands': WHATEVER THE INPUT: true; the input reads as it did. -/
def interpretOperandsSpec : ChangeSpec := { name := "interpretOperands", fn := fun _ => fun
  | [d1, d2, d3] => { results := [.lit (.bool true)], args := [d1, d2, d3] }
  | _ => none }
def interpretOperandsRow : OpenClaim := { program := "ytmifhmfokbigiaagreatdoor", sum := "82af1ccdf60504218f4346e9015cf0ef41d2aaf29fba148bf59af8085ca47f25", func := "midrange/midrangelaw14.InterpretOperands", spec := "interpretOperands", inPlace := ["internal/abi.NoEscape", "internal/bytealg.MakeNoZero", "math/bits.Add64", "math/bits.Sub64", "internal/bytealg.abigen_runtime_cmpstring"], unfollowed := true, recurses := true, named := ["midrange/program.operations", "internal/strconv.uint64pow10", "math/bits.deBruijn32tab", "math/bits.deBruijn64tab"], apart := false, laid := [("math/bits.deBruijn32tab", laid_math_bits_deBruijn32tab), ("math/bits.deBruijn64tab", laid_math_bits_deBruijn64tab), ("internal/strconv.uint64pow10", laid_internal_strconv_uint64pow10), ("midrange/program.operations", laid_midrange_program_operations)] }
def InterpretOperandsSaid : Prop := interpretOperandsRow.holds Tryz.pinned (OpenSpec.ofChange interpretOperandsSpec)

/-- ITS FALSE NEIGHBOUR: 'it returns false'. Refute it at one input. -/
def interpretOperandsWrong : ChangeSpec := { name := "interpretOperands", fn := fun _ => fun
  | [d1, d2, d3] => { results := [.lit (.bool false)], args := [d1, d2, d3] }
  | _ => none }
def InterpretOperandsWrongFalsely : Prop := interpretOperandsRow.holds Tryz.pinned (OpenSpec.ofChange interpretOperandsWrong)

/- THE SECOND FORM. 'bulk': how many values and letters a reading holds, each counted each time it is reached (what is shared counts as often as it is met; a slice's spare places count too). A statement '..UptoSaid' is the law's where the arguments, and the package variables that the reading takes, are together of bulk at most 1048576: NARROWER than '..Said'. Prove '..Said' where nothing that the law and all that it calls make is longer than what came in: it says more and counts as full. Else prove '..UptoSaid'. A law counts once. -/
mutual
def uptoBulk {H : Type} : DataW H → Nat
  | .lit (.string bytes) => bytes.length + 1
  | .lit _ => 1
  | .nil => 1
  | .ptr d => uptoBulk d + 1
  | .slice elems spare => uptoBulkAll elems + uptoBulkAll spare + 1
  | .agg parts => uptoBulkAll parts + 1
  | .iface _ d => uptoBulk d + 1
  | .map entries => uptoBulkEntries entries + 1
  | .held _ => 1
def uptoBulkAll {H : Type} : List (DataW H) → Nat
  | [] => 0
  | d :: r => uptoBulk d + uptoBulkAll r
def uptoBulkEntries {H : Type} : List (Lit × DataW H) → Nat
  | [] => 0
  | x :: r => uptoBulkEntry x + uptoBulkEntries r
def uptoBulkEntry {H : Type} : Lit × DataW H → Nat
  | (.string bytes, d) => bytes.length + uptoBulk d + 1
  | (_, d) => uptoBulk d + 1
 end
def uptoSmall : (H : Type) → List (DataW H) → Bool := fun _ ds => decide (uptoBulkAll ds ≤ 1048576)
def OpenSpec.upto (s : _root_.Go.ChangeSpec) : _root_.Go.OpenSpec := { _root_.Go.OpenSpec.ofChange s with cond := some uptoSmall }

/-- 'midrangelaw14.InterpretTraces', WHERE WHAT IT READS IS OF BULK AT MOST 1048576: true; the input reads as it did. -/
def interpretTracesUptoRow : OpenClaim := { program := "ytmifhmfokbigiaagreatdoor", sum := "82af1ccdf60504218f4346e9015cf0ef41d2aaf29fba148bf59af8085ca47f25", func := "midrange/midrangelaw14.InterpretTraces", spec := "interpretTraces", inPlace := ["internal/abi.NoEscape", "internal/bytealg.MakeNoZero", "math/bits.Add64", "math/bits.Sub64", "internal/bytealg.abigen_runtime_cmpstring"], unfollowed := true, recurses := true, named := ["midrange/program.operations", "internal/strconv.uint64pow10", "math/bits.deBruijn32tab", "math/bits.deBruijn64tab"], apart := false, laid := [("math/bits.deBruijn32tab", laid_math_bits_deBruijn32tab), ("math/bits.deBruijn64tab", laid_math_bits_deBruijn64tab), ("internal/strconv.uint64pow10", laid_internal_strconv_uint64pow10), ("midrange/program.operations", laid_midrange_program_operations)], narrowed := true }
def InterpretTracesUptoSaid : Prop := interpretTracesUptoRow.holds Tryz.pinned (OpenSpec.upto interpretTracesSpec)

/-- 'midrangelaw14.InterpretTags', WHERE WHAT IT READS IS OF BULK AT MOST 1048576: true; the input reads as it did. -/
def interpretTagsUptoRow : OpenClaim := { program := "ytmifhmfokbigiaagreatdoor", sum := "82af1ccdf60504218f4346e9015cf0ef41d2aaf29fba148bf59af8085ca47f25", func := "midrange/midrangelaw14.InterpretTags", spec := "interpretTags", inPlace := ["internal/abi.NoEscape", "internal/bytealg.MakeNoZero", "math/bits.Add64", "math/bits.Sub64", "internal/bytealg.abigen_runtime_cmpstring"], unfollowed := true, recurses := true, named := ["midrange/program.operations", "internal/strconv.uint64pow10", "math/bits.deBruijn32tab", "math/bits.deBruijn64tab"], apart := false, laid := [("math/bits.deBruijn32tab", laid_math_bits_deBruijn32tab), ("math/bits.deBruijn64tab", laid_math_bits_deBruijn64tab), ("internal/strconv.uint64pow10", laid_internal_strconv_uint64pow10), ("midrange/program.operations", laid_midrange_program_operations)], narrowed := true }
def InterpretTagsUptoSaid : Prop := interpretTagsUptoRow.holds Tryz.pinned (OpenSpec.upto interpretTagsSpec)

/-- 'midrangelaw14.InterpretHandlers', WHERE WHAT IT READS IS OF BULK AT MOST 1048576: true; the input reads as it did. -/
def interpretHandlersUptoRow : OpenClaim := { program := "ytmifhmfokbigiaagreatdoor", sum := "82af1ccdf60504218f4346e9015cf0ef41d2aaf29fba148bf59af8085ca47f25", func := "midrange/midrangelaw14.InterpretHandlers", spec := "interpretHandlers", inPlace := ["internal/abi.NoEscape", "internal/bytealg.MakeNoZero", "math/bits.Add64", "math/bits.Sub64", "internal/bytealg.abigen_runtime_cmpstring"], unfollowed := true, recurses := true, named := ["midrange/program.operations", "internal/strconv.uint64pow10", "math/bits.deBruijn32tab", "math/bits.deBruijn64tab"], apart := false, laid := [("math/bits.deBruijn32tab", laid_math_bits_deBruijn32tab), ("math/bits.deBruijn64tab", laid_math_bits_deBruijn64tab), ("internal/strconv.uint64pow10", laid_internal_strconv_uint64pow10), ("midrange/program.operations", laid_midrange_program_operations)], narrowed := true }
def InterpretHandlersUptoSaid : Prop := interpretHandlersUptoRow.holds Tryz.pinned (OpenSpec.upto interpretHandlersSpec)

/-- 'midrangelaw14.InterpretStates', WHERE WHAT IT READS IS OF BULK AT MOST 1048576: true; the input reads as it did. -/
def interpretStatesUptoRow : OpenClaim := { program := "ytmifhmfokbigiaagreatdoor", sum := "82af1ccdf60504218f4346e9015cf0ef41d2aaf29fba148bf59af8085ca47f25", func := "midrange/midrangelaw14.InterpretStates", spec := "interpretStates", inPlace := ["internal/abi.NoEscape", "internal/bytealg.MakeNoZero", "math/bits.Add64", "math/bits.Sub64", "internal/bytealg.abigen_runtime_cmpstring"], unfollowed := true, recurses := true, named := ["midrange/program.operations", "internal/strconv.uint64pow10", "math/bits.deBruijn32tab", "math/bits.deBruijn64tab"], apart := false, laid := [("math/bits.deBruijn32tab", laid_math_bits_deBruijn32tab), ("math/bits.deBruijn64tab", laid_math_bits_deBruijn64tab), ("internal/strconv.uint64pow10", laid_internal_strconv_uint64pow10), ("midrange/program.operations", laid_midrange_program_operations)], narrowed := true }
def InterpretStatesUptoSaid : Prop := interpretStatesUptoRow.holds Tryz.pinned (OpenSpec.upto interpretStatesSpec)

/-- 'midrangelaw14.InterpretSteps', WHERE WHAT IT READS IS OF BULK AT MOST 1048576: true; the input reads as it did. -/
def interpretStepsUptoRow : OpenClaim := { program := "ytmifhmfokbigiaagreatdoor", sum := "82af1ccdf60504218f4346e9015cf0ef41d2aaf29fba148bf59af8085ca47f25", func := "midrange/midrangelaw14.InterpretSteps", spec := "interpretSteps", inPlace := ["internal/abi.NoEscape", "internal/bytealg.MakeNoZero", "math/bits.Add64", "math/bits.Sub64", "internal/bytealg.abigen_runtime_cmpstring"], unfollowed := true, recurses := true, named := ["midrange/program.operations", "internal/strconv.uint64pow10", "math/bits.deBruijn32tab", "math/bits.deBruijn64tab"], apart := false, laid := [("math/bits.deBruijn32tab", laid_math_bits_deBruijn32tab), ("math/bits.deBruijn64tab", laid_math_bits_deBruijn64tab), ("internal/strconv.uint64pow10", laid_internal_strconv_uint64pow10), ("midrange/program.operations", laid_midrange_program_operations)], narrowed := true }
def InterpretStepsUptoSaid : Prop := interpretStepsUptoRow.holds Tryz.pinned (OpenSpec.upto interpretStepsSpec)

/-- 'midrangelaw14.InterpretUnchanged', WHERE WHAT IT READS IS OF BULK AT MOST 1048576: true; the input reads as it did. -/
def interpretUnchangedUptoRow : OpenClaim := { program := "ytmifhmfokbigiaagreatdoor", sum := "82af1ccdf60504218f4346e9015cf0ef41d2aaf29fba148bf59af8085ca47f25", func := "midrange/midrangelaw14.InterpretUnchanged", spec := "interpretUnchanged", inPlace := ["internal/abi.NoEscape", "internal/bytealg.MakeNoZero", "math/bits.Add64", "math/bits.Sub64", "internal/bytealg.abigen_runtime_cmpstring"], unfollowed := true, recurses := true, named := ["midrange/program.operations", "internal/strconv.uint64pow10", "math/bits.deBruijn32tab", "math/bits.deBruijn64tab"], apart := false, laid := [("math/bits.deBruijn32tab", laid_math_bits_deBruijn32tab), ("math/bits.deBruijn64tab", laid_math_bits_deBruijn64tab), ("internal/strconv.uint64pow10", laid_internal_strconv_uint64pow10), ("midrange/program.operations", laid_midrange_program_operations)], narrowed := true }
def InterpretUnchangedUptoSaid : Prop := interpretUnchangedUptoRow.holds Tryz.pinned (OpenSpec.upto interpretUnchangedSpec)

/-- 'midrangelaw14.InterpretAgain', WHERE WHAT IT READS IS OF BULK AT MOST 1048576: true; the input reads as it did. -/
def interpretAgainUptoRow : OpenClaim := { program := "ytmifhmfokbigiaagreatdoor", sum := "82af1ccdf60504218f4346e9015cf0ef41d2aaf29fba148bf59af8085ca47f25", func := "midrange/midrangelaw14.InterpretAgain", spec := "interpretAgain", inPlace := ["internal/abi.NoEscape", "internal/bytealg.MakeNoZero", "math/bits.Add64", "math/bits.Sub64", "internal/bytealg.abigen_runtime_cmpstring"], unfollowed := true, recurses := true, named := ["midrange/program.operations", "internal/strconv.uint64pow10", "math/bits.deBruijn32tab", "math/bits.deBruijn64tab"], apart := false, laid := [("math/bits.deBruijn32tab", laid_math_bits_deBruijn32tab), ("math/bits.deBruijn64tab", laid_math_bits_deBruijn64tab), ("internal/strconv.uint64pow10", laid_internal_strconv_uint64pow10), ("midrange/program.operations", laid_midrange_program_operations)], narrowed := true }
def InterpretAgainUptoSaid : Prop := interpretAgainUptoRow.holds Tryz.pinned (OpenSpec.upto interpretAgainSpec)

/-- 'midrangelaw14.InterpretOperands', WHERE WHAT IT READS IS OF BULK AT MOST 1048576: true; the input reads as it did. -/
def interpretOperandsUptoRow : OpenClaim := { program := "ytmifhmfokbigiaagreatdoor", sum := "82af1ccdf60504218f4346e9015cf0ef41d2aaf29fba148bf59af8085ca47f25", func := "midrange/midrangelaw14.InterpretOperands", spec := "interpretOperands", inPlace := ["internal/abi.NoEscape", "internal/bytealg.MakeNoZero", "math/bits.Add64", "math/bits.Sub64", "internal/bytealg.abigen_runtime_cmpstring"], unfollowed := true, recurses := true, named := ["midrange/program.operations", "internal/strconv.uint64pow10", "math/bits.deBruijn32tab", "math/bits.deBruijn64tab"], apart := false, laid := [("math/bits.deBruijn32tab", laid_math_bits_deBruijn32tab), ("math/bits.deBruijn64tab", laid_math_bits_deBruijn64tab), ("internal/strconv.uint64pow10", laid_internal_strconv_uint64pow10), ("midrange/program.operations", laid_midrange_program_operations)], narrowed := true }
def InterpretOperandsUptoSaid : Prop := interpretOperandsUptoRow.holds Tryz.pinned (OpenSpec.upto interpretOperandsSpec)

end Rows
end Go.Proofs.YtmifhmfokbigiaaGreatDoor
