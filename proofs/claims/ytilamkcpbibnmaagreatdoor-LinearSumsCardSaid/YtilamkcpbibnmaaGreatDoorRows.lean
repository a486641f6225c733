/-
  NARROWER THAN 'FOR EVERY INPUT', by the rows' own cells (each row's printed sentence says how): LinearSums: laid · LinearTimes: laid · LinearAt: laid · LinearTexts: laid · LinearSpace: laid · LinearValues: laid · LinearBack: laid · LinearOwn: laid.
  DERIVED. THE GIVEN ROWS OF THIS SEAT. 8 by the template 'for every input the law returns true; each argument reads behind the call as it read before'; 0 by the template 'total and deterministic' (their statements: YtilamkcpbibnmaaGreatDoorTotals.lean).
  GIVEN WITH THE SEED: the statements are not yours to turn. If you find one false, say at which input.
  Laid BY PROGRAM, IN A SANDBOX (cutbox-rows.mjs): the forced cells as the released guide's own fill.sh prints them over the translation a9f788ca0b7860ff… (all of the seat's roots in one cut). By AI agents, Wed Nov 11 2026. No macro, syntax, notation, axiom, sorry.
-/
import Derived.Test.YtilamkcpbibnmaaGreatDoorChecked
import GoSem.Claim
import GoSem.ClaimJoined
import GoSem.ClaimMapViews
import Derived.JoinedTies
import Derived.KernelRfl
namespace Go.Proofs.YtilamkcpbibnmaaGreatDoor
/- THE CELL 'sum', in the pinned program and in every row, IS THE sha256 OF THE DUMP (.gsa) THAT YtilamkcpbibnmaaGreatDoorProg.lean LOADS. Nothing in Lean hashes anything: it is a label: what it is worth is what the hold of that sum in a sandbox is worth. -/
noncomputable def Tryz.pinned : Pinned := { name := "ytilamkcpbibnmaagreatdoor", sum := "a9f788ca0b7860ff38893a79a911d52fd25e24c271b24f8422859aa450777510", checked := Tryz.checked }
namespace Rows
def none {H : Type} : Left H := { results := [], args := [] }

/- WHAT THE LISTED PACKAGE-LEVEL VARIABLES READ AS WHEN THE CALL BEGINS. Each datum BY PROGRAM (the guide's laid-datum.mjs) off the statement by which the dump's own 'gosem.cut.vars' lays the variable. In a bare row this is a premise. The card (YtilamkcpbibnmaaGreatDoorCards.lean) ties it to the program's text. -/
def laid_math_bits_deBruijn32tab {H : Type} : DataW H := .agg [.lit (.int .u8 0), .lit (.int .u8 1), .lit (.int .u8 28), .lit (.int .u8 2), .lit (.int .u8 29), .lit (.int .u8 14), .lit (.int .u8 24), .lit (.int .u8 3), .lit (.int .u8 30), .lit (.int .u8 22), .lit (.int .u8 20), .lit (.int .u8 15), .lit (.int .u8 25), .lit (.int .u8 17), .lit (.int .u8 4), .lit (.int .u8 8), .lit (.int .u8 31), .lit (.int .u8 27), .lit (.int .u8 13), .lit (.int .u8 23), .lit (.int .u8 21), .lit (.int .u8 19), .lit (.int .u8 16), .lit (.int .u8 7), .lit (.int .u8 26), .lit (.int .u8 12), .lit (.int .u8 18), .lit (.int .u8 6), .lit (.int .u8 11), .lit (.int .u8 5), .lit (.int .u8 10), .lit (.int .u8 9)]
def laid_math_bits_deBruijn64tab {H : Type} : DataW H := .agg [.lit (.int .u8 0), .lit (.int .u8 1), .lit (.int .u8 56), .lit (.int .u8 2), .lit (.int .u8 57), .lit (.int .u8 49), .lit (.int .u8 28), .lit (.int .u8 3), .lit (.int .u8 61), .lit (.int .u8 58), .lit (.int .u8 42), .lit (.int .u8 50), .lit (.int .u8 38), .lit (.int .u8 29), .lit (.int .u8 17), .lit (.int .u8 4), .lit (.int .u8 62), .lit (.int .u8 47), .lit (.int .u8 59), .lit (.int .u8 36), .lit (.int .u8 45), .lit (.int .u8 43), .lit (.int .u8 51), .lit (.int .u8 22), .lit (.int .u8 53), .lit (.int .u8 39), .lit (.int .u8 33), .lit (.int .u8 30), .lit (.int .u8 24), .lit (.int .u8 18), .lit (.int .u8 12), .lit (.int .u8 5), .lit (.int .u8 63), .lit (.int .u8 55), .lit (.int .u8 48), .lit (.int .u8 27), .lit (.int .u8 60), .lit (.int .u8 41), .lit (.int .u8 37), .lit (.int .u8 16), .lit (.int .u8 46), .lit (.int .u8 35), .lit (.int .u8 44), .lit (.int .u8 21), .lit (.int .u8 52), .lit (.int .u8 32), .lit (.int .u8 23), .lit (.int .u8 11), .lit (.int .u8 54), .lit (.int .u8 26), .lit (.int .u8 40), .lit (.int .u8 15), .lit (.int .u8 34), .lit (.int .u8 20), .lit (.int .u8 31), .lit (.int .u8 10), .lit (.int .u8 25), .lit (.int .u8 14), .lit (.int .u8 19), .lit (.int .u8 9), .lit (.int .u8 13), .lit (.int .u8 8), .lit (.int .u8 7), .lit (.int .u8 6)]
def laid_internal_strconv_uint64pow10 {H : Type} : DataW H := .agg [.lit (.int .u64 1), .lit (.int .u64 10), .lit (.int .u64 100), .lit (.int .u64 1000), .lit (.int .u64 10000), .lit (.int .u64 100000), .lit (.int .u64 1000000), .lit (.int .u64 10000000), .lit (.int .u64 100000000), .lit (.int .u64 1000000000), .lit (.int .u64 10000000000), .lit (.int .u64 100000000000), .lit (.int .u64 1000000000000), .lit (.int .u64 10000000000000), .lit (.int .u64 100000000000000), .lit (.int .u64 1000000000000000), .lit (.int .u64 10000000000000000), .lit (.int .u64 100000000000000000), .lit (.int .u64 1000000000000000000), .lit (.int .u64 10000000000000000000)]
def laid_strconv_ErrRange {H : Type} : DataW H := .iface "*errors.errorString" (.ptr (.agg [.lit (.string [118, 97, 108, 117, 101, 32, 111, 117, 116, 32, 111, 102, 32, 114, 97, 110, 103, 101])]))
def laid_strconv_ErrSyntax {H : Type} : DataW H := .iface "*errors.errorString" (.ptr (.agg [.lit (.string [105, 110, 118, 97, 108, 105, 100, 32, 115, 121, 110, 116, 97, 120])]))
def laid_fleuron_linear_zero {H : Type} : DataW H := .agg [.lit (.int .i64 0), .lit (.int .i64 1)]
def laid_fleuron_linear_one {H : Type} : DataW H := .agg [.lit (.int .i64 1), .lit (.int .i64 1)]

/-- 'fleuronlaw08.LinearSums': WHATEVER THE INPUT: true; the input reads as it did. -/
def linearSumsSpec : ChangeSpec := { name := "linearSums", fn := fun _ => fun
  | [d1, d2] => { results := [.lit (.bool true)], args := [d1, d2] }
  | _ => none }
def linearSumsRow : OpenClaim := { program := "ytilamkcpbibnmaagreatdoor", sum := "a9f788ca0b7860ff38893a79a911d52fd25e24c271b24f8422859aa450777510", func := "fleuron/fleuronlaw08.LinearSums", spec := "linearSums", inPlace := ["internal/abi.NoEscape", "internal/bytealg.abigen_runtime_cmpstring", "math/bits.Add64", "internal/bytealg.IndexByteString", "internal/bytealg.IndexString"], unfollowed := true, recurses := true, named := ["fleuron/linear.one", "internal/strconv.uint64pow10", "math/bits.deBruijn32tab", "math/bits.deBruijn64tab", "math/bits.divideError", "math/bits.overflowError", "fleuron/linear.zero", "internal/bytealg.MaxLen", "strconv.ErrSyntax", "strconv.ErrRange"], apart := false, laid := [("math/bits.deBruijn32tab", laid_math_bits_deBruijn32tab), ("math/bits.deBruijn64tab", laid_math_bits_deBruijn64tab), ("internal/strconv.uint64pow10", laid_internal_strconv_uint64pow10), ("strconv.ErrRange", laid_strconv_ErrRange), ("strconv.ErrSyntax", laid_strconv_ErrSyntax), ("fleuron/linear.zero", laid_fleuron_linear_zero), ("fleuron/linear.one", laid_fleuron_linear_one)] }
def LinearSumsSaid : Prop := linearSumsRow.holds Tryz.pinned (OpenSpec.ofChange linearSumsSpec)

/-- ITS FALSE NEIGHBOUR: 'it returns false'. Refute it at one input. -/
def linearSumsWrong : ChangeSpec := { name := "linearSums", fn := fun _ => fun
  | [d1, d2] => { results := [.lit (.bool false)], args := [d1, d2] }
  | _ => none }
def LinearSumsWrongFalsely : Prop := linearSumsRow.holds Tryz.pinned (OpenSpec.ofChange linearSumsWrong)

/-- 'fleuronlaw08.LinearTimes': WHATEVER THE INPUT: true; the input reads as it did. -/
def linearTimesSpec : ChangeSpec := { name := "linearTimes", fn := fun _ => fun
  | [d1, d2, d3] => { results := [.lit (.bool true)], args := [d1, d2, d3] }
  | _ => none }
def linearTimesRow : OpenClaim := { program := "ytilamkcpbibnmaagreatdoor", sum := "a9f788ca0b7860ff38893a79a911d52fd25e24c271b24f8422859aa450777510", func := "fleuron/fleuronlaw08.LinearTimes", spec := "linearTimes", inPlace := ["internal/abi.NoEscape", "internal/bytealg.abigen_runtime_cmpstring", "math/bits.Add64", "internal/bytealg.IndexByteString", "internal/bytealg.IndexString"], unfollowed := true, recurses := true, named := ["fleuron/linear.one", "internal/strconv.uint64pow10", "math/bits.deBruijn32tab", "math/bits.deBruijn64tab", "math/bits.divideError", "math/bits.overflowError", "fleuron/linear.zero", "internal/bytealg.MaxLen", "strconv.ErrSyntax", "strconv.ErrRange"], apart := false, laid := [("math/bits.deBruijn32tab", laid_math_bits_deBruijn32tab), ("math/bits.deBruijn64tab", laid_math_bits_deBruijn64tab), ("internal/strconv.uint64pow10", laid_internal_strconv_uint64pow10), ("strconv.ErrRange", laid_strconv_ErrRange), ("strconv.ErrSyntax", laid_strconv_ErrSyntax), ("fleuron/linear.zero", laid_fleuron_linear_zero), ("fleuron/linear.one", laid_fleuron_linear_one)] }
def LinearTimesSaid : Prop := linearTimesRow.holds Tryz.pinned (OpenSpec.ofChange linearTimesSpec)

/-- ITS FALSE NEIGHBOUR: 'it returns false'. Refute it at one input. -/
def linearTimesWrong : ChangeSpec := { name := "linearTimes", fn := fun _ => fun
  | [d1, d2, d3] => { results := [.lit (.bool false)], args := [d1, d2, d3] }
  | _ => none }
def LinearTimesWrongFalsely : Prop := linearTimesRow.holds Tryz.pinned (OpenSpec.ofChange linearTimesWrong)

/-- 'fleuronlaw08.LinearAt': WHATEVER THE INPUT: true; the input reads as it did. -/
def linearAtSpec : ChangeSpec := { name := "linearAt", fn := fun _ => fun
  | [d1, d2] => { results := [.lit (.bool true)], args := [d1, d2] }
  | _ => none }
def linearAtRow : OpenClaim := { program := "ytilamkcpbibnmaagreatdoor", sum := "a9f788ca0b7860ff38893a79a911d52fd25e24c271b24f8422859aa450777510", func := "fleuron/fleuronlaw08.LinearAt", spec := "linearAt", inPlace := ["internal/abi.NoEscape", "internal/bytealg.abigen_runtime_cmpstring", "math/bits.Add64", "internal/bytealg.IndexByteString", "internal/bytealg.IndexString"], unfollowed := true, recurses := true, named := ["fleuron/linear.one", "internal/strconv.uint64pow10", "math/bits.deBruijn32tab", "math/bits.deBruijn64tab", "math/bits.divideError", "math/bits.overflowError", "fleuron/linear.zero", "internal/bytealg.MaxLen", "strconv.ErrSyntax", "strconv.ErrRange"], apart := false, laid := [("math/bits.deBruijn32tab", laid_math_bits_deBruijn32tab), ("math/bits.deBruijn64tab", laid_math_bits_deBruijn64tab), ("internal/strconv.uint64pow10", laid_internal_strconv_uint64pow10), ("strconv.ErrRange", laid_strconv_ErrRange), ("strconv.ErrSyntax", laid_strconv_ErrSyntax), ("fleuron/linear.zero", laid_fleuron_linear_zero), ("fleuron/linear.one", laid_fleuron_linear_one)] }
def LinearAtSaid : Prop := linearAtRow.holds Tryz.pinned (OpenSpec.ofChange linearAtSpec)

/-- ITS FALSE NEIGHBOUR: 'it returns false'. Refute it at one input. -/
def linearAtWrong : ChangeSpec := { name := "linearAt", fn := fun _ => fun
  | [d1, d2] => { results := [.lit (.bool false)], args := [d1, d2] }
  | _ => none }
def LinearAtWrongFalsely : Prop := linearAtRow.holds Tryz.pinned (OpenSpec.ofChange linearAtWrong)

/-- 'fleuronlaw08.LinearTexts': WHATEVER THE INPUT: true; the input reads as it did. -/
def linearTextsSpec : ChangeSpec := { name := "linearTexts", fn := fun _ => fun
  | [d1, d2] => { results := [.lit (.bool true)], args := [d1, d2] }
  | _ => none }
def linearTextsRow : OpenClaim := { program := "ytilamkcpbibnmaagreatdoor", sum := "a9f788ca0b7860ff38893a79a911d52fd25e24c271b24f8422859aa450777510", func := "fleuron/fleuronlaw08.LinearTexts", spec := "linearTexts", inPlace := ["internal/abi.NoEscape", "internal/bytealg.abigen_runtime_cmpstring", "math/bits.Add64", "internal/bytealg.IndexByteString", "internal/bytealg.IndexString"], unfollowed := true, recurses := true, named := ["fleuron/linear.one", "internal/strconv.uint64pow10", "math/bits.deBruijn32tab", "math/bits.deBruijn64tab", "math/bits.divideError", "math/bits.overflowError", "fleuron/linear.zero", "internal/bytealg.MaxLen", "strconv.ErrSyntax", "strconv.ErrRange"], apart := false, laid := [("math/bits.deBruijn32tab", laid_math_bits_deBruijn32tab), ("math/bits.deBruijn64tab", laid_math_bits_deBruijn64tab), ("internal/strconv.uint64pow10", laid_internal_strconv_uint64pow10), ("strconv.ErrRange", laid_strconv_ErrRange), ("strconv.ErrSyntax", laid_strconv_ErrSyntax), ("fleuron/linear.zero", laid_fleuron_linear_zero), ("fleuron/linear.one", laid_fleuron_linear_one)] }
def LinearTextsSaid : Prop := linearTextsRow.holds Tryz.pinned (OpenSpec.ofChange linearTextsSpec)

/-- ITS FALSE NEIGHBOUR: 'it returns false'. Refute it at one input. -/
def linearTextsWrong : ChangeSpec := { name := "linearTexts", fn := fun _ => fun
  | [d1, d2] => { results := [.lit (.bool false)], args := [d1, d2] }
  | _ => none }
def LinearTextsWrongFalsely : Prop := linearTextsRow.holds Tryz.pinned (OpenSpec.ofChange linearTextsWrong)

/-- 'fleuronlaw08.LinearSpace': WHATEVER THE INPUT: true; the input reads as it did. -/
def linearSpaceSpec : ChangeSpec := { name := "linearSpace", fn := fun _ => fun
  | [d1, d2, d3] => { results := [.lit (.bool true)], args := [d1, d2, d3] }
  | _ => none }
def linearSpaceRow : OpenClaim := { program := "ytilamkcpbibnmaagreatdoor", sum := "a9f788ca0b7860ff38893a79a911d52fd25e24c271b24f8422859aa450777510", func := "fleuron/fleuronlaw08.LinearSpace", spec := "linearSpace", inPlace := ["internal/abi.NoEscape", "internal/bytealg.abigen_runtime_cmpstring", "math/bits.Add64", "internal/bytealg.IndexByteString", "internal/bytealg.IndexString"], unfollowed := true, recurses := true, named := ["fleuron/linear.one", "internal/strconv.uint64pow10", "math/bits.deBruijn32tab", "math/bits.deBruijn64tab", "math/bits.divideError", "math/bits.overflowError", "fleuron/linear.zero", "internal/bytealg.MaxLen", "strconv.ErrSyntax", "strconv.ErrRange"], apart := false, laid := [("math/bits.deBruijn32tab", laid_math_bits_deBruijn32tab), ("math/bits.deBruijn64tab", laid_math_bits_deBruijn64tab), ("internal/strconv.uint64pow10", laid_internal_strconv_uint64pow10), ("strconv.ErrRange", laid_strconv_ErrRange), ("strconv.ErrSyntax", laid_strconv_ErrSyntax), ("fleuron/linear.zero", laid_fleuron_linear_zero), ("fleuron/linear.one", laid_fleuron_linear_one)] }
def LinearSpaceSaid : Prop := linearSpaceRow.holds Tryz.pinned (OpenSpec.ofChange linearSpaceSpec)

/-- ITS FALSE NEIGHBOUR: 'it returns false'. Refute it at one input. -/
def linearSpaceWrong : ChangeSpec := { name := "linearSpace", fn := fun _ => fun
  | [d1, d2, d3] => { results := [.lit (.bool false)], args := [d1, d2, d3] }
  | _ => none }
def LinearSpaceWrongFalsely : Prop := linearSpaceRow.holds Tryz.pinned (OpenSpec.ofChange linearSpaceWrong)

/-- 'fleuronlaw08.LinearValues': WHATEVER THE INPUT: true; the input reads as it did. -/
def linearValuesSpec : ChangeSpec := { name := "linearValues", fn := fun _ => fun
  | [d1, d2, d3] => { results := [.lit (.bool true)], args := [d1, d2, d3] }
  | _ => none }
def linearValuesRow : OpenClaim := { program := "ytilamkcpbibnmaagreatdoor", sum := "a9f788ca0b7860ff38893a79a911d52fd25e24c271b24f8422859aa450777510", func := "fleuron/fleuronlaw08.LinearValues", spec := "linearValues", inPlace := ["internal/abi.NoEscape", "internal/bytealg.abigen_runtime_cmpstring", "math/bits.Add64", "internal/bytealg.IndexByteString", "internal/bytealg.IndexString"], unfollowed := true, recurses := true, named := ["fleuron/linear.one", "internal/strconv.uint64pow10", "math/bits.deBruijn32tab", "math/bits.deBruijn64tab", "math/bits.divideError", "math/bits.overflowError", "fleuron/linear.zero", "internal/bytealg.MaxLen", "strconv.ErrSyntax", "strconv.ErrRange"], apart := false, laid := [("math/bits.deBruijn32tab", laid_math_bits_deBruijn32tab), ("math/bits.deBruijn64tab", laid_math_bits_deBruijn64tab), ("internal/strconv.uint64pow10", laid_internal_strconv_uint64pow10), ("strconv.ErrRange", laid_strconv_ErrRange), ("strconv.ErrSyntax", laid_strconv_ErrSyntax), ("fleuron/linear.zero", laid_fleuron_linear_zero), ("fleuron/linear.one", laid_fleuron_linear_one)] }
def LinearValuesSaid : Prop := linearValuesRow.holds Tryz.pinned (OpenSpec.ofChange linearValuesSpec)

/-- ITS FALSE NEIGHBOUR: 'it returns false'. Refute it at one input. -/
def linearValuesWrong : ChangeSpec := { name := "linearValues", fn := fun _ => fun
  | [d1, d2, d3] => { results := [.lit (.bool false)], args := [d1, d2, d3] }
  | _ => none }
def LinearValuesWrongFalsely : Prop := linearValuesRow.holds Tryz.pinned (OpenSpec.ofChange linearValuesWrong)

/-- 'fleuronlaw08.LinearBack': WHATEVER THE INPUT: true; the input reads as it did. -/
def linearBackSpec : ChangeSpec := { name := "linearBack", fn := fun _ => fun
  | [d1, d2] => { results := [.lit (.bool true)], args := [d1, d2] }
  | _ => none }
def linearBackRow : OpenClaim := { program := "ytilamkcpbibnmaagreatdoor", sum := "a9f788ca0b7860ff38893a79a911d52fd25e24c271b24f8422859aa450777510", func := "fleuron/fleuronlaw08.LinearBack", spec := "linearBack", inPlace := ["internal/abi.NoEscape", "internal/bytealg.abigen_runtime_cmpstring", "math/bits.Add64", "internal/bytealg.IndexByteString", "internal/bytealg.IndexString"], unfollowed := true, recurses := true, named := ["fleuron/linear.one", "internal/strconv.uint64pow10", "math/bits.deBruijn32tab", "math/bits.deBruijn64tab", "math/bits.divideError", "math/bits.overflowError", "fleuron/linear.zero", "internal/bytealg.MaxLen", "strconv.ErrSyntax", "strconv.ErrRange"], apart := false, laid := [("math/bits.deBruijn32tab", laid_math_bits_deBruijn32tab), ("math/bits.deBruijn64tab", laid_math_bits_deBruijn64tab), ("internal/strconv.uint64pow10", laid_internal_strconv_uint64pow10), ("strconv.ErrRange", laid_strconv_ErrRange), ("strconv.ErrSyntax", laid_strconv_ErrSyntax), ("fleuron/linear.zero", laid_fleuron_linear_zero), ("fleuron/linear.one", laid_fleuron_linear_one)] }
def LinearBackSaid : Prop := linearBackRow.holds Tryz.pinned (OpenSpec.ofChange linearBackSpec)

/-- ITS FALSE NEIGHBOUR: 'it returns false'. Refute it at one input. -/
def linearBackWrong : ChangeSpec := { name := "linearBack", fn := fun _ => fun
  | [d1, d2] => { results := [.lit (.bool false)], args := [d1, d2] }
  | _ => none }
def LinearBackWrongFalsely : Prop := linearBackRow.holds Tryz.pinned (OpenSpec.ofChange linearBackWrong)

/-- 'fleuronlaw08.LinearOwn': WHATEVER THE INPUT: true; the input reads as it did. -/
def linearOwnSpec : ChangeSpec := { name := "linearOwn", fn := fun _ => fun
  | [d1, d2, d3] => { results := [.lit (.bool true)], args := [d1, d2, d3] }
  | _ => none }
def linearOwnRow : OpenClaim := { program := "ytilamkcpbibnmaagreatdoor", sum := "a9f788ca0b7860ff38893a79a911d52fd25e24c271b24f8422859aa450777510", func := "fleuron/fleuronlaw08.LinearOwn", spec := "linearOwn", inPlace := ["internal/abi.NoEscape", "internal/bytealg.abigen_runtime_cmpstring", "math/bits.Add64", "internal/bytealg.IndexByteString", "internal/bytealg.IndexString"], unfollowed := true, recurses := true, named := ["fleuron/linear.one", "internal/strconv.uint64pow10", "math/bits.deBruijn32tab", "math/bits.deBruijn64tab", "math/bits.divideError", "math/bits.overflowError", "fleuron/linear.zero", "internal/bytealg.MaxLen", "strconv.ErrSyntax", "strconv.ErrRange"], apart := false, laid := [("math/bits.deBruijn32tab", laid_math_bits_deBruijn32tab), ("math/bits.deBruijn64tab", laid_math_bits_deBruijn64tab), ("internal/strconv.uint64pow10", laid_internal_strconv_uint64pow10), ("strconv.ErrRange", laid_strconv_ErrRange), ("strconv.ErrSyntax", laid_strconv_ErrSyntax), ("fleuron/linear.zero", laid_fleuron_linear_zero), ("fleuron/linear.one", laid_fleuron_linear_one)] }
def LinearOwnSaid : Prop := linearOwnRow.holds Tryz.pinned (OpenSpec.ofChange linearOwnSpec)

/-- ITS FALSE NEIGHBOUR: 'it returns false'. Refute it at one input. -/
def linearOwnWrong : ChangeSpec := { name := "linearOwn", fn := fun _ => fun
  | [d1, d2, d3] => { results := [.lit (.bool false)], args := [d1, d2, d3] }
  | _ => none }
def LinearOwnWrongFalsely : Prop := linearOwnRow.holds Tryz.pinned (OpenSpec.ofChange linearOwnWrong)

/- THE SECOND FORM. 'bulk': how many values and letters a reading holds, each counted each time it is reached (what is shared counts as often as it is met; a slice's spare places count too). A statement '..UptoSaid' is the law's where the arguments, and the package variables that the reading takes, are together of bulk at most 1048576: NARROWER than '..Said'. Prove '..Said' where nothing that the law and all that it calls make is longer than what came in: it says more and counts as full. Else prove '..UptoSaid'. A law counts once. -/
mutual
def uptoBulk {H : Type} : DataW H → Nat
  | .lit (.string bytes) => bytes.length + 1
  | .lit _ => 1
  | .nil => 1
  | .ptr d => uptoBulk d + 1
  | .slice elems spare => uptoBulkAll elems + uptoBulkAll spare + 1
  | .agg parts => uptoBulkAll parts + 1
  | .iface _ d => uptoBulk d + 1
  | .map entries => uptoBulkEntries entries + 1
  | .held _ => 1
def uptoBulkAll {H : Type} : List (DataW H) → Nat
  | [] => 0
  | d :: r => uptoBulk d + uptoBulkAll r
def uptoBulkEntries {H : Type} : List (Lit × DataW H) → Nat
  | [] => 0
  | x :: r => uptoBulkEntry x + uptoBulkEntries r
def uptoBulkEntry {H : Type} : Lit × DataW H → Nat
  | (.string bytes, d) => bytes.length + uptoBulk d + 1
  | (_, d) => uptoBulk d + 1
 end
def uptoSmall : (H : Type) → List (DataW H) → Bool := fun _ ds => decide (uptoBulkAll ds ≤ 1048576)
def OpenSpec.upto (s : _root_.Go.ChangeSpec) : _root_.Go.OpenSpec := { _root_.Go.OpenSpec.ofChange s with cond := some uptoSmall }

/-- 'fleuronlaw08.LinearSums', WHERE WHAT IT READS IS OF BULK AT MOST 1048576: true; the input reads as it did. -/
def linearSumsUptoRow : OpenClaim := { program := "ytilamkcpbibnmaagreatdoor", sum := "a9f788ca0b7860ff38893a79a911d52fd25e24c271b24f8422859aa450777510", func := "fleuron/fleuronlaw08.LinearSums", spec := "linearSums", inPlace := ["internal/abi.NoEscape", "internal/bytealg.abigen_runtime_cmpstring", "math/bits.Add64", "internal/bytealg.IndexByteString", "internal/bytealg.IndexString"], unfollowed := true, recurses := true, named := ["fleuron/linear.one", "internal/strconv.uint64pow10", "math/bits.deBruijn32tab", "math/bits.deBruijn64tab", "math/bits.divideError", "math/bits.overflowError", "fleuron/linear.zero", "internal/bytealg.MaxLen", "strconv.ErrSyntax", "strconv.ErrRange"], apart := false, laid := [("math/bits.deBruijn32tab", laid_math_bits_deBruijn32tab), ("math/bits.deBruijn64tab", laid_math_bits_deBruijn64tab), ("internal/strconv.uint64pow10", laid_internal_strconv_uint64pow10), ("strconv.ErrRange", laid_strconv_ErrRange), ("strconv.ErrSyntax", laid_strconv_ErrSyntax), ("fleuron/linear.zero", laid_fleuron_linear_zero), ("fleuron/linear.one", laid_fleuron_linear_one)], narrowed := true }
def LinearSumsUptoSaid : Prop := linearSumsUptoRow.holds Tryz.pinned (OpenSpec.upto linearSumsSpec)

/-- 'fleuronlaw08.LinearTimes', WHERE WHAT IT READS IS OF BULK AT MOST 1048576: true; the input reads as it did. -/
def linearTimesUptoRow : OpenClaim := { program := "ytilamkcpbibnmaagreatdoor", sum := "a9f788ca0b7860ff38893a79a911d52fd25e24c271b24f8422859aa450777510", func := "fleuron/fleuronlaw08.LinearTimes", spec := "linearTimes", inPlace := ["internal/abi.NoEscape", "internal/bytealg.abigen_runtime_cmpstring", "math/bits.Add64", "internal/bytealg.IndexByteString", "internal/bytealg.IndexString"], unfollowed := true, recurses := true, named := ["fleuron/linear.one", "internal/strconv.uint64pow10", "math/bits.deBruijn32tab", "math/bits.deBruijn64tab", "math/bits.divideError", "math/bits.overflowError", "fleuron/linear.zero", "internal/bytealg.MaxLen", "strconv.ErrSyntax", "strconv.ErrRange"], apart := false, laid := [("math/bits.deBruijn32tab", laid_math_bits_deBruijn32tab), ("math/bits.deBruijn64tab", laid_math_bits_deBruijn64tab), ("internal/strconv.uint64pow10", laid_internal_strconv_uint64pow10), ("strconv.ErrRange", laid_strconv_ErrRange), ("strconv.ErrSyntax", laid_strconv_ErrSyntax), ("fleuron/linear.zero", laid_fleuron_linear_zero), ("fleuron/linear.one", laid_fleuron_linear_one)], narrowed := true }
def LinearTimesUptoSaid : Prop := linearTimesUptoRow.holds Tryz.pinned (OpenSpec.upto linearTimesSpec)

/-- 'fleuronlaw08.LinearAt', WHERE WHAT IT READS IS OF BULK AT MOST 1048576: true; the input reads as it did. -/
def linearAtUptoRow : OpenClaim := { program := "ytilamkcpbibnmaagreatdoor", sum := "a9f788ca0b7860ff38893a79a911d52fd25e24c271b24f8422859aa450777510", func := "fleuron/fleuronlaw08.LinearAt", spec := "linearAt", inPlace := ["internal/abi.NoEscape", "internal/bytealg.abigen_runtime_cmpstring", "math/bits.Add64", "internal/bytealg.IndexByteString", "internal/bytealg.IndexString"], unfollowed := true, recurses := true, named := ["fleuron/linear.one", "internal/strconv.uint64pow10", "math/bits.deBruijn32tab", "math/bits.deBruijn64tab", "math/bits.divideError", "math/bits.overflowError", "fleuron/linear.zero", "internal/bytealg.MaxLen", "strconv.ErrSyntax", "strconv.ErrRange"], apart := false, laid := [("math/bits.deBruijn32tab", laid_math_bits_deBruijn32tab), ("math/bits.deBruijn64tab", laid_math_bits_deBruijn64tab), ("internal/strconv.uint64pow10", laid_internal_strconv_uint64pow10), ("strconv.ErrRange", laid_strconv_ErrRange), ("strconv.ErrSyntax", laid_strconv_ErrSyntax), ("fleuron/linear.zero", laid_fleuron_linear_zero), ("fleuron/linear.one", laid_fleuron_linear_one)], narrowed := true }
def LinearAtUptoSaid : Prop := linearAtUptoRow.holds Tryz.pinned (OpenSpec.upto linearAtSpec)

/-- 'fleuronlaw08.LinearTexts', WHERE WHAT IT READS IS OF BULK AT MOST 1048576: true; the input reads as it did. -/
def linearTextsUptoRow : OpenClaim := { program := "ytilamkcpbibnmaagreatdoor", sum := "a9f788ca0b7860ff38893a79a911d52fd25e24c271b24f8422859aa450777510", func := "fleuron/fleuronlaw08.LinearTexts", spec := "linearTexts", inPlace := ["internal/abi.NoEscape", "internal/bytealg.abigen_runtime_cmpstring", "math/bits.Add64", "internal/bytealg.IndexByteString", "internal/bytealg.IndexString"], unfollowed := true, recurses := true, named := ["fleuron/linear.one", "internal/strconv.uint64pow10", "math/bits.deBruijn32tab", "math/bits.deBruijn64tab", "math/bits.divideError", "math/bits.overflowError", "fleuron/linear.zero", "internal/bytealg.MaxLen", "strconv.ErrSyntax", "strconv.ErrRange"], apart := false, laid := [("math/bits.deBruijn32tab", laid_math_bits_deBruijn32tab), ("math/bits.deBruijn64tab", laid_math_bits_deBruijn64tab), ("internal/strconv.uint64pow10", laid_internal_strconv_uint64pow10), ("strconv.ErrRange", laid_strconv_ErrRange), ("strconv.ErrSyntax", laid_strconv_ErrSyntax), ("fleuron/linear.zero", laid_fleuron_linear_zero), ("fleuron/linear.one", laid_fleuron_linear_one)], narrowed := true }
def LinearTextsUptoSaid : Prop := linearTextsUptoRow.holds Tryz.pinned (OpenSpec.upto linearTextsSpec)

/-- 'fleuronlaw08.LinearSpace', WHERE WHAT IT READS IS OF BULK AT MOST 1048576: true; the input reads as it did. -/
def linearSpaceUptoRow : OpenClaim := { program := "ytilamkcpbibnmaagreatdoor", sum := "a9f788ca0b7860ff38893a79a911d52fd25e24c271b24f8422859aa450777510", func := "fleuron/fleuronlaw08.LinearSpace", spec := "linearSpace", inPlace := ["internal/abi.NoEscape", "internal/bytealg.abigen_runtime_cmpstring", "math/bits.Add64", "internal/bytealg.IndexByteString", "internal/bytealg.IndexString"], unfollowed := true, recurses := true, named := ["fleuron/linear.one", "internal/strconv.uint64pow10", "math/bits.deBruijn32tab", "math/bits.deBruijn64tab", "math/bits.divideError", "math/bits.overflowError", "fleuron/linear.zero", "internal/bytealg.MaxLen", "strconv.ErrSyntax", "strconv.ErrRange"], apart := false, laid := [("math/bits.deBruijn32tab", laid_math_bits_deBruijn32tab), ("math/bits.deBruijn64tab", laid_math_bits_deBruijn64tab), ("internal/strconv.uint64pow10", laid_internal_strconv_uint64pow10), ("strconv.ErrRange", laid_strconv_ErrRange), ("strconv.ErrSyntax", laid_strconv_ErrSyntax), ("fleuron/linear.zero", laid_fleuron_linear_zero), ("fleuron/linear.one", laid_fleuron_linear_one)], narrowed := true }
def LinearSpaceUptoSaid : Prop := linearSpaceUptoRow.holds Tryz.pinned (OpenSpec.upto linearSpaceSpec)

/-- 'fleuronlaw08.LinearValues', WHERE WHAT IT READS IS OF BULK AT MOST 1048576: true; the input reads as it did. -/
def linearValuesUptoRow : OpenClaim := { program := "ytilamkcpbibnmaagreatdoor", sum := "a9f788ca0b7860ff38893a79a911d52fd25e24c271b24f8422859aa450777510", func := "fleuron/fleuronlaw08.LinearValues", spec := "linearValues", inPlace := ["internal/abi.NoEscape", "internal/bytealg.abigen_runtime_cmpstring", "math/bits.Add64", "internal/bytealg.IndexByteString", "internal/bytealg.IndexString"], unfollowed := true, recurses := true, named := ["fleuron/linear.one", "internal/strconv.uint64pow10", "math/bits.deBruijn32tab", "math/bits.deBruijn64tab", "math/bits.divideError", "math/bits.overflowError", "fleuron/linear.zero", "internal/bytealg.MaxLen", "strconv.ErrSyntax", "strconv.ErrRange"], apart := false, laid := [("math/bits.deBruijn32tab", laid_math_bits_deBruijn32tab), ("math/bits.deBruijn64tab", laid_math_bits_deBruijn64tab), ("internal/strconv.uint64pow10", laid_internal_strconv_uint64pow10), ("strconv.ErrRange", laid_strconv_ErrRange), ("strconv.ErrSyntax", laid_strconv_ErrSyntax), ("fleuron/linear.zero", laid_fleuron_linear_zero), ("fleuron/linear.one", laid_fleuron_linear_one)], narrowed := true }
def LinearValuesUptoSaid : Prop := linearValuesUptoRow.holds Tryz.pinned (OpenSpec.upto linearValuesSpec)

/-- 'fleuronlaw08.LinearBack', WHERE WHAT IT READS IS OF BULK AT MOST 1048576: true; the input reads as it did. -/
def linearBackUptoRow : OpenClaim := { program := "ytilamkcpbibnmaagreatdoor", sum := "a9f788ca0b7860ff38893a79a911d52fd25e24c271b24f8422859aa450777510", func := "fleuron/fleuronlaw08.LinearBack", spec := "linearBack", inPlace := ["internal/abi.NoEscape", "internal/bytealg.abigen_runtime_cmpstring", "math/bits.Add64", "internal/bytealg.IndexByteString", "internal/bytealg.IndexString"], unfollowed := true, recurses := true, named := ["fleuron/linear.one", "internal/strconv.uint64pow10", "math/bits.deBruijn32tab", "math/bits.deBruijn64tab", "math/bits.divideError", "math/bits.overflowError", "fleuron/linear.zero", "internal/bytealg.MaxLen", "strconv.ErrSyntax", "strconv.ErrRange"], apart := false, laid := [("math/bits.deBruijn32tab", laid_math_bits_deBruijn32tab), ("math/bits.deBruijn64tab", laid_math_bits_deBruijn64tab), ("internal/strconv.uint64pow10", laid_internal_strconv_uint64pow10), ("strconv.ErrRange", laid_strconv_ErrRange), ("strconv.ErrSyntax", laid_strconv_ErrSyntax), ("fleuron/linear.zero", laid_fleuron_linear_zero), ("fleuron/linear.one", laid_fleuron_linear_one)], narrowed := true }
def LinearBackUptoSaid : Prop := linearBackUptoRow.holds Tryz.pinned (OpenSpec.upto linearBackSpec)

/-- 'fleuronlaw08.LinearOwn', WHERE WHAT IT READS IS OF BULK AT MOST 1048576: true; the input reads as it did. -/
def linearOwnUptoRow : OpenClaim := { program := "ytilamkcpbibnmaagreatdoor", sum := "a9f788ca0b7860ff38893a79a911d52fd25e24c271b24f8422859aa450777510", func := "fleuron/fleuronlaw08.LinearOwn", spec := "linearOwn", inPlace := ["internal/abi.NoEscape", "internal/bytealg.abigen_runtime_cmpstring", "math/bits.Add64", "internal/bytealg.IndexByteString", "internal/bytealg.IndexString"], unfollowed := true, recurses := true, named := ["fleuron/linear.one", "internal/strconv.uint64pow10", "math/bits.deBruijn32tab", "math/bits.deBruijn64tab", "math/bits.divideError", "math/bits.overflowError", "fleuron/linear.zero", "internal/bytealg.MaxLen", "strconv.ErrSyntax", "strconv.ErrRange"], apart := false, laid := [("math/bits.deBruijn32tab", laid_math_bits_deBruijn32tab), ("math/bits.deBruijn64tab", laid_math_bits_deBruijn64tab), ("internal/strconv.uint64pow10", laid_internal_strconv_uint64pow10), ("strconv.ErrRange", laid_strconv_ErrRange), ("strconv.ErrSyntax", laid_strconv_ErrSyntax), ("fleuron/linear.zero", laid_fleuron_linear_zero), ("fleuron/linear.one", laid_fleuron_linear_one)], narrowed := true }
def LinearOwnUptoSaid : Prop := linearOwnUptoRow.holds Tryz.pinned (OpenSpec.upto linearOwnSpec)

end Rows
end Go.Proofs.YtilamkcpbibnmaaGreatDoor
