/-
  NARROWER THAN 'FOR EVERY INPUT', by the rows' own cells (each row's printed sentence says how): PairCodes: laid · PairComposes: laid · PairFunctions: laid · PairImages: laid · PairNormals: laid · PairRestricts: laid · PairCombines: laid · PairProjects: laid · PairAlgebra: laid · PairStays: laid.
  DERIVED. THE GIVEN ROWS OF THIS SEAT. 10 by the template 'for every input the law returns true; each argument reads behind the call as it read before'; 0 by the template 'total and deterministic' (their statements: YtfbakhgmmnblfaaGreatDoorTotals.lean).
  GIVEN WITH THE SEED: the statements are not yours to turn. If you find one false, say at which input.
  Laid BY PROGRAM, IN A SANDBOX (cutbox-rows.mjs): the forced cells as the released guide's own fill.sh prints them over the translation 660b0224f45e5336… (all of the seat's roots in one cut). By AI agents, Wed Nov 11 2026. No macro, syntax, notation, axiom, sorry.
-/
import Derived.Test.YtfbakhgmmnblfaaGreatDoorChecked
import GoSem.Claim
import GoSem.ClaimJoined
import GoSem.ClaimMapViews
import Derived.JoinedTies
import Derived.KernelRfl
namespace Go.Proofs.YtfbakhgmmnblfaaGreatDoor
/- THE CELL 'sum', in the pinned program and in every row, IS THE sha256 OF THE DUMP (.gsa) THAT YtfbakhgmmnblfaaGreatDoorProg.lean LOADS. Nothing in Lean hashes anything: it is a label: what it is worth is what the hold of that sum in a sandbox is worth. -/
noncomputable def Tryz.pinned : Pinned := { name := "ytfbakhgmmnblfaagreatdoor", sum := "660b0224f45e533689f9adc6626edcc024e6a6783f1ef149a0d29caf1a1d5760", checked := Tryz.checked }
namespace Rows
def none {H : Type} : Left H := { results := [], args := [] }

/- WHAT THE LISTED PACKAGE-LEVEL VARIABLES READ AS WHEN THE CALL BEGINS. Each datum BY PROGRAM (the guide's laid-datum.mjs) off the statement by which the dump's own 'gosem.cut.vars' lays the variable. In a bare row this is a premise. The card (YtfbakhgmmnblfaaGreatDoorCards.lean) ties it to the program's text. -/
def laid_math_bits_deBruijn32tab {H : Type} : DataW H := .agg [.lit (.int .u8 0), .lit (.int .u8 1), .lit (.int .u8 28), .lit (.int .u8 2), .lit (.int .u8 29), .lit (.int .u8 14), .lit (.int .u8 24), .lit (.int .u8 3), .lit (.int .u8 30), .lit (.int .u8 22), .lit (.int .u8 20), .lit (.int .u8 15), .lit (.int .u8 25), .lit (.int .u8 17), .lit (.int .u8 4), .lit (.int .u8 8), .lit (.int .u8 31), .lit (.int .u8 27), .lit (.int .u8 13), .lit (.int .u8 23), .lit (.int .u8 21), .lit (.int .u8 19), .lit (.int .u8 16), .lit (.int .u8 7), .lit (.int .u8 26), .lit (.int .u8 12), .lit (.int .u8 18), .lit (.int .u8 6), .lit (.int .u8 11), .lit (.int .u8 5), .lit (.int .u8 10), .lit (.int .u8 9)]
def laid_math_bits_deBruijn64tab {H : Type} : DataW H := .agg [.lit (.int .u8 0), .lit (.int .u8 1), .lit (.int .u8 56), .lit (.int .u8 2), .lit (.int .u8 57), .lit (.int .u8 49), .lit (.int .u8 28), .lit (.int .u8 3), .lit (.int .u8 61), .lit (.int .u8 58), .lit (.int .u8 42), .lit (.int .u8 50), .lit (.int .u8 38), .lit (.int .u8 29), .lit (.int .u8 17), .lit (.int .u8 4), .lit (.int .u8 62), .lit (.int .u8 47), .lit (.int .u8 59), .lit (.int .u8 36), .lit (.int .u8 45), .lit (.int .u8 43), .lit (.int .u8 51), .lit (.int .u8 22), .lit (.int .u8 53), .lit (.int .u8 39), .lit (.int .u8 33), .lit (.int .u8 30), .lit (.int .u8 24), .lit (.int .u8 18), .lit (.int .u8 12), .lit (.int .u8 5), .lit (.int .u8 63), .lit (.int .u8 55), .lit (.int .u8 48), .lit (.int .u8 27), .lit (.int .u8 60), .lit (.int .u8 41), .lit (.int .u8 37), .lit (.int .u8 16), .lit (.int .u8 46), .lit (.int .u8 35), .lit (.int .u8 44), .lit (.int .u8 21), .lit (.int .u8 52), .lit (.int .u8 32), .lit (.int .u8 23), .lit (.int .u8 11), .lit (.int .u8 54), .lit (.int .u8 26), .lit (.int .u8 40), .lit (.int .u8 15), .lit (.int .u8 34), .lit (.int .u8 20), .lit (.int .u8 31), .lit (.int .u8 10), .lit (.int .u8 25), .lit (.int .u8 14), .lit (.int .u8 19), .lit (.int .u8 9), .lit (.int .u8 13), .lit (.int .u8 8), .lit (.int .u8 7), .lit (.int .u8 6)]
def laid_internal_strconv_uint64pow10 {H : Type} : DataW H := .agg [.lit (.int .u64 1), .lit (.int .u64 10), .lit (.int .u64 100), .lit (.int .u64 1000), .lit (.int .u64 10000), .lit (.int .u64 100000), .lit (.int .u64 1000000), .lit (.int .u64 10000000), .lit (.int .u64 100000000), .lit (.int .u64 1000000000), .lit (.int .u64 10000000000), .lit (.int .u64 100000000000), .lit (.int .u64 1000000000000), .lit (.int .u64 10000000000000), .lit (.int .u64 100000000000000), .lit (.int .u64 1000000000000000), .lit (.int .u64 10000000000000000), .lit (.int .u64 100000000000000000), .lit (.int .u64 1000000000000000000), .lit (.int .u64 10000000000000000000)]

/-- 'cayleylaw08.PairCodes': WHATEVER THE INPUT: true; the input reads as it did. -/
def pairCodesSpec : ChangeSpec := { name := "pairCodes", fn := fun _ => fun
  | [d1, d2, d3, d4] => { results := [.lit (.bool true)], args := [d1, d2, d3, d4] }
  | _ => none }
def pairCodesRow : OpenClaim := { program := "ytfbakhgmmnblfaagreatdoor", sum := "660b0224f45e533689f9adc6626edcc024e6a6783f1ef149a0d29caf1a1d5760", func := "cayley/cayleylaw08.PairCodes", spec := "pairCodes", unfollowed := true, recurses := true, named := ["internal/strconv.uint64pow10", "math/bits.deBruijn32tab", "math/bits.deBruijn64tab"], plainKeys := false, apart := false, laid := [("math/bits.deBruijn32tab", laid_math_bits_deBruijn32tab), ("math/bits.deBruijn64tab", laid_math_bits_deBruijn64tab), ("internal/strconv.uint64pow10", laid_internal_strconv_uint64pow10)] }
def PairCodesSaid : Prop := pairCodesRow.holds Tryz.pinned (OpenSpec.ofChange pairCodesSpec)

/-- ITS FALSE NEIGHBOUR: 'it returns false'. Refute it at one input. -/
def pairCodesWrong : ChangeSpec := { name := "pairCodes", fn := fun _ => fun
  | [d1, d2, d3, d4] => { results := [.lit (.bool false)], args := [d1, d2, d3, d4] }
  | _ => none }
def PairCodesWrongFalsely : Prop := pairCodesRow.holds Tryz.pinned (OpenSpec.ofChange pairCodesWrong)

/-- 'cayleylaw08.PairComposes': WHATEVER THE INPUT: true; the input reads as it did. -/
def pairComposesSpec : ChangeSpec := { name := "pairComposes", fn := fun _ => fun
  | [d1, d2, d3, d4, d5] => { results := [.lit (.bool true)], args := [d1, d2, d3, d4, d5] }
  | _ => none }
def pairComposesRow : OpenClaim := { program := "ytfbakhgmmnblfaagreatdoor", sum := "660b0224f45e533689f9adc6626edcc024e6a6783f1ef149a0d29caf1a1d5760", func := "cayley/cayleylaw08.PairComposes", spec := "pairComposes", unfollowed := true, recurses := true, named := ["internal/strconv.uint64pow10", "math/bits.deBruijn32tab", "math/bits.deBruijn64tab"], plainKeys := false, apart := false, laid := [("math/bits.deBruijn32tab", laid_math_bits_deBruijn32tab), ("math/bits.deBruijn64tab", laid_math_bits_deBruijn64tab), ("internal/strconv.uint64pow10", laid_internal_strconv_uint64pow10)] }
def PairComposesSaid : Prop := pairComposesRow.holds Tryz.pinned (OpenSpec.ofChange pairComposesSpec)

/-- ITS FALSE NEIGHBOUR: 'it returns false'. Refute it at one input. -/
def pairComposesWrong : ChangeSpec := { name := "pairComposes", fn := fun _ => fun
  | [d1, d2, d3, d4, d5] => { results := [.lit (.bool false)], args := [d1, d2, d3, d4, d5] }
  | _ => none }
def PairComposesWrongFalsely : Prop := pairComposesRow.holds Tryz.pinned (OpenSpec.ofChange pairComposesWrong)

/-- 'cayleylaw08.PairFunctions': WHATEVER THE INPUT: true; the input reads as it did. -/
def pairFunctionsSpec : ChangeSpec := { name := "pairFunctions", fn := fun _ => fun
  | [d1, d2, d3] => { results := [.lit (.bool true)], args := [d1, d2, d3] }
  | _ => none }
def pairFunctionsRow : OpenClaim := { program := "ytfbakhgmmnblfaagreatdoor", sum := "660b0224f45e533689f9adc6626edcc024e6a6783f1ef149a0d29caf1a1d5760", func := "cayley/cayleylaw08.PairFunctions", spec := "pairFunctions", unfollowed := true, recurses := true, named := ["internal/strconv.uint64pow10", "math/bits.deBruijn32tab", "math/bits.deBruijn64tab"], plainKeys := false, apart := false, laid := [("math/bits.deBruijn32tab", laid_math_bits_deBruijn32tab), ("math/bits.deBruijn64tab", laid_math_bits_deBruijn64tab), ("internal/strconv.uint64pow10", laid_internal_strconv_uint64pow10)] }
def PairFunctionsSaid : Prop := pairFunctionsRow.holds Tryz.pinned (OpenSpec.ofChange pairFunctionsSpec)

/-- ITS FALSE NEIGHBOUR: 'it returns false'. Refute it at one input. -/
def pairFunctionsWrong : ChangeSpec := { name := "pairFunctions", fn := fun _ => fun
  | [d1, d2, d3] => { results := [.lit (.bool false)], args := [d1, d2, d3] }
  | _ => none }
def PairFunctionsWrongFalsely : Prop := pairFunctionsRow.holds Tryz.pinned (OpenSpec.ofChange pairFunctionsWrong)

/-- 'cayleylaw08.PairImages': WHATEVER THE INPUT: true; the input reads as it did. -/
def pairImagesSpec : ChangeSpec := { name := "pairImages", fn := fun _ => fun
  | [d1, d2, d3] => { results := [.lit (.bool true)], args := [d1, d2, d3] }
  | _ => none }
def pairImagesRow : OpenClaim := { program := "ytfbakhgmmnblfaagreatdoor", sum := "660b0224f45e533689f9adc6626edcc024e6a6783f1ef149a0d29caf1a1d5760", func := "cayley/cayleylaw08.PairImages", spec := "pairImages", unfollowed := true, recurses := true, named := ["internal/strconv.uint64pow10", "math/bits.deBruijn32tab", "math/bits.deBruijn64tab"], plainKeys := false, apart := false, laid := [("math/bits.deBruijn32tab", laid_math_bits_deBruijn32tab), ("math/bits.deBruijn64tab", laid_math_bits_deBruijn64tab), ("internal/strconv.uint64pow10", laid_internal_strconv_uint64pow10)] }
def PairImagesSaid : Prop := pairImagesRow.holds Tryz.pinned (OpenSpec.ofChange pairImagesSpec)

/-- ITS FALSE NEIGHBOUR: 'it returns false'. Refute it at one input. -/
def pairImagesWrong : ChangeSpec := { name := "pairImages", fn := fun _ => fun
  | [d1, d2, d3] => { results := [.lit (.bool false)], args := [d1, d2, d3] }
  | _ => none }
def PairImagesWrongFalsely : Prop := pairImagesRow.holds Tryz.pinned (OpenSpec.ofChange pairImagesWrong)

/-- 'cayleylaw08.PairNormals': WHATEVER THE INPUT: true; the input reads as it did. -/
def pairNormalsSpec : ChangeSpec := { name := "pairNormals", fn := fun _ => fun
  | [d1, d2, d3, d4] => { results := [.lit (.bool true)], args := [d1, d2, d3, d4] }
  | _ => none }
def pairNormalsRow : OpenClaim := { program := "ytfbakhgmmnblfaagreatdoor", sum := "660b0224f45e533689f9adc6626edcc024e6a6783f1ef149a0d29caf1a1d5760", func := "cayley/cayleylaw08.PairNormals", spec := "pairNormals", unfollowed := true, recurses := true, named := ["internal/strconv.uint64pow10", "math/bits.deBruijn32tab", "math/bits.deBruijn64tab"], plainKeys := false, apart := false, laid := [("math/bits.deBruijn32tab", laid_math_bits_deBruijn32tab), ("math/bits.deBruijn64tab", laid_math_bits_deBruijn64tab), ("internal/strconv.uint64pow10", laid_internal_strconv_uint64pow10)] }
def PairNormalsSaid : Prop := pairNormalsRow.holds Tryz.pinned (OpenSpec.ofChange pairNormalsSpec)

/-- ITS FALSE NEIGHBOUR: 'it returns false'. Refute it at one input. -/
def pairNormalsWrong : ChangeSpec := { name := "pairNormals", fn := fun _ => fun
  | [d1, d2, d3, d4] => { results := [.lit (.bool false)], args := [d1, d2, d3, d4] }
  | _ => none }
def PairNormalsWrongFalsely : Prop := pairNormalsRow.holds Tryz.pinned (OpenSpec.ofChange pairNormalsWrong)

/-- 'cayleylaw08.PairRestricts': WHATEVER THE INPUT: true; the input reads as it did. -/
def pairRestrictsSpec : ChangeSpec := { name := "pairRestricts", fn := fun _ => fun
  | [d1, d2, d3, d4, d5, d6] => { results := [.lit (.bool true)], args := [d1, d2, d3, d4, d5, d6] }
  | _ => none }
def pairRestrictsRow : OpenClaim := { program := "ytfbakhgmmnblfaagreatdoor", sum := "660b0224f45e533689f9adc6626edcc024e6a6783f1ef149a0d29caf1a1d5760", func := "cayley/cayleylaw08.PairRestricts", spec := "pairRestricts", unfollowed := true, recurses := true, named := ["internal/strconv.uint64pow10", "math/bits.deBruijn32tab", "math/bits.deBruijn64tab"], plainKeys := false, apart := false, laid := [("math/bits.deBruijn32tab", laid_math_bits_deBruijn32tab), ("math/bits.deBruijn64tab", laid_math_bits_deBruijn64tab), ("internal/strconv.uint64pow10", laid_internal_strconv_uint64pow10)] }
def PairRestrictsSaid : Prop := pairRestrictsRow.holds Tryz.pinned (OpenSpec.ofChange pairRestrictsSpec)

/-- ITS FALSE NEIGHBOUR: 'it returns false'. Refute it at one input. -/
def pairRestrictsWrong : ChangeSpec := { name := "pairRestricts", fn := fun _ => fun
  | [d1, d2, d3, d4, d5, d6] => { results := [.lit (.bool false)], args := [d1, d2, d3, d4, d5, d6] }
  | _ => none }
def PairRestrictsWrongFalsely : Prop := pairRestrictsRow.holds Tryz.pinned (OpenSpec.ofChange pairRestrictsWrong)

/-- 'cayleylaw08.PairCombines': WHATEVER THE INPUT: true; the input reads as it did. -/
def pairCombinesSpec : ChangeSpec := { name := "pairCombines", fn := fun _ => fun
  | [d1, d2, d3, d4, d5, d6] => { results := [.lit (.bool true)], args := [d1, d2, d3, d4, d5, d6] }
  | _ => none }
def pairCombinesRow : OpenClaim := { program := "ytfbakhgmmnblfaagreatdoor", sum := "660b0224f45e533689f9adc6626edcc024e6a6783f1ef149a0d29caf1a1d5760", func := "cayley/cayleylaw08.PairCombines", spec := "pairCombines", unfollowed := true, recurses := true, named := ["internal/strconv.uint64pow10", "math/bits.deBruijn32tab", "math/bits.deBruijn64tab"], plainKeys := false, apart := false, laid := [("math/bits.deBruijn32tab", laid_math_bits_deBruijn32tab), ("math/bits.deBruijn64tab", laid_math_bits_deBruijn64tab), ("internal/strconv.uint64pow10", laid_internal_strconv_uint64pow10)] }
def PairCombinesSaid : Prop := pairCombinesRow.holds Tryz.pinned (OpenSpec.ofChange pairCombinesSpec)

/-- ITS FALSE NEIGHBOUR: 'it returns false'. Refute it at one input. -/
def pairCombinesWrong : ChangeSpec := { name := "pairCombines", fn := fun _ => fun
  | [d1, d2, d3, d4, d5, d6] => { results := [.lit (.bool false)], args := [d1, d2, d3, d4, d5, d6] }
  | _ => none }
def PairCombinesWrongFalsely : Prop := pairCombinesRow.holds Tryz.pinned (OpenSpec.ofChange pairCombinesWrong)

/-- 'cayleylaw08.PairProjects': WHATEVER THE INPUT: true; the input reads as it did. -/
def pairProjectsSpec : ChangeSpec := { name := "pairProjects", fn := fun _ => fun
  | [d1, d2, d3, d4] => { results := [.lit (.bool true)], args := [d1, d2, d3, d4] }
  | _ => none }
def pairProjectsRow : OpenClaim := { program := "ytfbakhgmmnblfaagreatdoor", sum := "660b0224f45e533689f9adc6626edcc024e6a6783f1ef149a0d29caf1a1d5760", func := "cayley/cayleylaw08.PairProjects", spec := "pairProjects", unfollowed := true, recurses := true, named := ["internal/strconv.uint64pow10", "math/bits.deBruijn32tab", "math/bits.deBruijn64tab"], plainKeys := false, apart := false, laid := [("math/bits.deBruijn32tab", laid_math_bits_deBruijn32tab), ("math/bits.deBruijn64tab", laid_math_bits_deBruijn64tab), ("internal/strconv.uint64pow10", laid_internal_strconv_uint64pow10)] }
def PairProjectsSaid : Prop := pairProjectsRow.holds Tryz.pinned (OpenSpec.ofChange pairProjectsSpec)

/-- ITS FALSE NEIGHBOUR: 'it returns false'. Refute it at one input. -/
def pairProjectsWrong : ChangeSpec := { name := "pairProjects", fn := fun _ => fun
  | [d1, d2, d3, d4] => { results := [.lit (.bool false)], args := [d1, d2, d3, d4] }
  | _ => none }
def PairProjectsWrongFalsely : Prop := pairProjectsRow.holds Tryz.pinned (OpenSpec.ofChange pairProjectsWrong)

/-- 'cayleylaw08.PairAlgebra': WHATEVER THE INPUT: true; the input reads as it did. -/
def pairAlgebraSpec : ChangeSpec := { name := "pairAlgebra", fn := fun _ => fun
  | [d1, d2, d3, d4] => { results := [.lit (.bool true)], args := [d1, d2, d3, d4] }
  | _ => none }
def pairAlgebraRow : OpenClaim := { program := "ytfbakhgmmnblfaagreatdoor", sum := "660b0224f45e533689f9adc6626edcc024e6a6783f1ef149a0d29caf1a1d5760", func := "cayley/cayleylaw08.PairAlgebra", spec := "pairAlgebra", unfollowed := true, recurses := true, named := ["internal/strconv.uint64pow10", "math/bits.deBruijn32tab", "math/bits.deBruijn64tab"], plainKeys := false, apart := false, laid := [("math/bits.deBruijn32tab", laid_math_bits_deBruijn32tab), ("math/bits.deBruijn64tab", laid_math_bits_deBruijn64tab), ("internal/strconv.uint64pow10", laid_internal_strconv_uint64pow10)] }
def PairAlgebraSaid : Prop := pairAlgebraRow.holds Tryz.pinned (OpenSpec.ofChange pairAlgebraSpec)

/-- ITS FALSE NEIGHBOUR: 'it returns false'. Refute it at one input. -/
def pairAlgebraWrong : ChangeSpec := { name := "pairAlgebra", fn := fun _ => fun
  | [d1, d2, d3, d4] => { results := [.lit (.bool false)], args := [d1, d2, d3, d4] }
  | _ => none }
def PairAlgebraWrongFalsely : Prop := pairAlgebraRow.holds Tryz.pinned (OpenSpec.ofChange pairAlgebraWrong)

/-- 'cayleylaw08.PairStays': WHATEVER THE INPUT: true; the input reads as it did. -/
def pairStaysSpec : ChangeSpec := { name := "pairStays", fn := fun _ => fun
  | [d1, d2, d3, d4, d5] => { results := [.lit (.bool true)], args := [d1, d2, d3, d4, d5] }
  | _ => none }
def pairStaysRow : OpenClaim := { program := "ytfbakhgmmnblfaagreatdoor", sum := "660b0224f45e533689f9adc6626edcc024e6a6783f1ef149a0d29caf1a1d5760", func := "cayley/cayleylaw08.PairStays", spec := "pairStays", unfollowed := true, recurses := true, named := ["internal/strconv.uint64pow10", "math/bits.deBruijn32tab", "math/bits.deBruijn64tab"], plainKeys := false, apart := false, laid := [("math/bits.deBruijn32tab", laid_math_bits_deBruijn32tab), ("math/bits.deBruijn64tab", laid_math_bits_deBruijn64tab), ("internal/strconv.uint64pow10", laid_internal_strconv_uint64pow10)] }
def PairStaysSaid : Prop := pairStaysRow.holds Tryz.pinned (OpenSpec.ofChange pairStaysSpec)

/-- ITS FALSE NEIGHBOUR: 'it returns false'. Refute it at one input. -/
def pairStaysWrong : ChangeSpec := { name := "pairStays", fn := fun _ => fun
  | [d1, d2, d3, d4, d5] => { results := [.lit (.bool false)], args := [d1, d2, d3, d4, d5] }
  | _ => none }
def PairStaysWrongFalsely : Prop := pairStaysRow.holds Tryz.pinned (OpenSpec.ofChange pairStaysWrong)

/- THE SECOND FORM. 'bulk': how many values and letters a reading holds, each counted each time it is reached (what is shared counts as often as it is met; a slice's spare places count too). A statement '..UptoSaid' is the law's where the arguments, and the package variables that the reading takes, are together of bulk at most 1048576: NARROWER than '..Said'. Prove '..Said' where nothing that the law and all that it calls make is longer than what came in: it says more and counts as full. Else prove '..UptoSaid'. A law counts once. -/
mutual
def uptoBulk {H : Type} : DataW H → Nat
  | .lit (.string bytes) => bytes.length + 1
  | .lit _ => 1
  | .nil => 1
  | .ptr d => uptoBulk d + 1
  | .slice elems spare => uptoBulkAll elems + uptoBulkAll spare + 1
  | .agg parts => uptoBulkAll parts + 1
  | .iface _ d => uptoBulk d + 1
  | .map entries => uptoBulkEntries entries + 1
  | .held _ => 1
def uptoBulkAll {H : Type} : List (DataW H) → Nat
  | [] => 0
  | d :: r => uptoBulk d + uptoBulkAll r
def uptoBulkEntries {H : Type} : List (Lit × DataW H) → Nat
  | [] => 0
  | x :: r => uptoBulkEntry x + uptoBulkEntries r
def uptoBulkEntry {H : Type} : Lit × DataW H → Nat
  | (.string bytes, d) => bytes.length + uptoBulk d + 1
  | (_, d) => uptoBulk d + 1
 end
def uptoSmall : (H : Type) → List (DataW H) → Bool := fun _ ds => decide (uptoBulkAll ds ≤ 1048576)
def OpenSpec.upto (s : _root_.Go.ChangeSpec) : _root_.Go.OpenSpec := { _root_.Go.OpenSpec.ofChange s with cond := some uptoSmall }

/-- 'cayleylaw08.PairCodes', WHERE WHAT IT READS IS OF BULK AT MOST 1048576: true; the input reads as it did. -/
def pairCodesUptoRow : OpenClaim := { program := "ytfbakhgmmnblfaagreatdoor", sum := "660b0224f45e533689f9adc6626edcc024e6a6783f1ef149a0d29caf1a1d5760", func := "cayley/cayleylaw08.PairCodes", spec := "pairCodes", unfollowed := true, recurses := true, named := ["internal/strconv.uint64pow10", "math/bits.deBruijn32tab", "math/bits.deBruijn64tab"], plainKeys := false, apart := false, laid := [("math/bits.deBruijn32tab", laid_math_bits_deBruijn32tab), ("math/bits.deBruijn64tab", laid_math_bits_deBruijn64tab), ("internal/strconv.uint64pow10", laid_internal_strconv_uint64pow10)], narrowed := true }
def PairCodesUptoSaid : Prop := pairCodesUptoRow.holds Tryz.pinned (OpenSpec.upto pairCodesSpec)

/-- 'cayleylaw08.PairComposes', WHERE WHAT IT READS IS OF BULK AT MOST 1048576: true; the input reads as it did. -/
def pairComposesUptoRow : OpenClaim := { program := "ytfbakhgmmnblfaagreatdoor", sum := "660b0224f45e533689f9adc6626edcc024e6a6783f1ef149a0d29caf1a1d5760", func := "cayley/cayleylaw08.PairComposes", spec := "pairComposes", unfollowed := true, recurses := true, named := ["internal/strconv.uint64pow10", "math/bits.deBruijn32tab", "math/bits.deBruijn64tab"], plainKeys := false, apart := false, laid := [("math/bits.deBruijn32tab", laid_math_bits_deBruijn32tab), ("math/bits.deBruijn64tab", laid_math_bits_deBruijn64tab), ("internal/strconv.uint64pow10", laid_internal_strconv_uint64pow10)], narrowed := true }
def PairComposesUptoSaid : Prop := pairComposesUptoRow.holds Tryz.pinned (OpenSpec.upto pairComposesSpec)

/-- 'cayleylaw08.PairFunctions', WHERE WHAT IT READS IS OF BULK AT MOST 1048576: true; the input reads as it did. -/
def pairFunctionsUptoRow : OpenClaim := { program := "ytfbakhgmmnblfaagreatdoor", sum := "660b0224f45e533689f9adc6626edcc024e6a6783f1ef149a0d29caf1a1d5760", func := "cayley/cayleylaw08.PairFunctions", spec := "pairFunctions", unfollowed := true, recurses := true, named := ["internal/strconv.uint64pow10", "math/bits.deBruijn32tab", "math/bits.deBruijn64tab"], plainKeys := false, apart := false, laid := [("math/bits.deBruijn32tab", laid_math_bits_deBruijn32tab), ("math/bits.deBruijn64tab", laid_math_bits_deBruijn64tab), ("internal/strconv.uint64pow10", laid_internal_strconv_uint64pow10)], narrowed := true }
def PairFunctionsUptoSaid : Prop := pairFunctionsUptoRow.holds Tryz.pinned (OpenSpec.upto pairFunctionsSpec)

/-- 'cayleylaw08.PairImages', WHERE WHAT IT READS IS OF BULK AT MOST 1048576: true; the input reads as it did. -/
def pairImagesUptoRow : OpenClaim := { program := "ytfbakhgmmnblfaagreatdoor", sum := "660b0224f45e533689f9adc6626edcc024e6a6783f1ef149a0d29caf1a1d5760", func := "cayley/cayleylaw08.PairImages", spec := "pairImages", unfollowed := true, recurses := true, named := ["internal/strconv.uint64pow10", "math/bits.deBruijn32tab", "math/bits.deBruijn64tab"], plainKeys := false, apart := false, laid := [("math/bits.deBruijn32tab", laid_math_bits_deBruijn32tab), ("math/bits.deBruijn64tab", laid_math_bits_deBruijn64tab), ("internal/strconv.uint64pow10", laid_internal_strconv_uint64pow10)], narrowed := true }
def PairImagesUptoSaid : Prop := pairImagesUptoRow.holds Tryz.pinned (OpenSpec.upto pairImagesSpec)

/-- 'cayleylaw08.PairNormals', WHERE WHAT IT READS IS OF BULK AT MOST 1048576: true; the input reads as it did. -/
def pairNormalsUptoRow : OpenClaim := { program := "ytfbakhgmmnblfaagreatdoor", sum := "660b0224f45e533689f9adc6626edcc024e6a6783f1ef149a0d29caf1a1d5760", func := "cayley/cayleylaw08.PairNormals", spec := "pairNormals", unfollowed := true, recurses := true, named := ["internal/strconv.uint64pow10", "math/bits.deBruijn32tab", "math/bits.deBruijn64tab"], plainKeys := false, apart := false, laid := [("math/bits.deBruijn32tab", laid_math_bits_deBruijn32tab), ("math/bits.deBruijn64tab", laid_math_bits_deBruijn64tab), ("internal/strconv.uint64pow10", laid_internal_strconv_uint64pow10)], narrowed := true }
def PairNormalsUptoSaid : Prop := pairNormalsUptoRow.holds Tryz.pinned (OpenSpec.upto pairNormalsSpec)

/-- 'cayleylaw08.PairRestricts', WHERE WHAT IT READS IS OF BULK AT MOST 1048576: true; the input reads as it did. -/
def pairRestrictsUptoRow : OpenClaim := { program := "ytfbakhgmmnblfaagreatdoor", sum := "660b0224f45e533689f9adc6626edcc024e6a6783f1ef149a0d29caf1a1d5760", func := "cayley/cayleylaw08.PairRestricts", spec := "pairRestricts", unfollowed := true, recurses := true, named := ["internal/strconv.uint64pow10", "math/bits.deBruijn32tab", "math/bits.deBruijn64tab"], plainKeys := false, apart := false, laid := [("math/bits.deBruijn32tab", laid_math_bits_deBruijn32tab), ("math/bits.deBruijn64tab", laid_math_bits_deBruijn64tab), ("internal/strconv.uint64pow10", laid_internal_strconv_uint64pow10)], narrowed := true }
def PairRestrictsUptoSaid : Prop := pairRestrictsUptoRow.holds Tryz.pinned (OpenSpec.upto pairRestrictsSpec)

/-- 'cayleylaw08.PairCombines', WHERE WHAT IT READS IS OF BULK AT MOST 1048576: true; the input reads as it did. -/
def pairCombinesUptoRow : OpenClaim := { program := "ytfbakhgmmnblfaagreatdoor", sum := "660b0224f45e533689f9adc6626edcc024e6a6783f1ef149a0d29caf1a1d5760", func := "cayley/cayleylaw08.PairCombines", spec := "pairCombines", unfollowed := true, recurses := true, named := ["internal/strconv.uint64pow10", "math/bits.deBruijn32tab", "math/bits.deBruijn64tab"], plainKeys := false, apart := false, laid := [("math/bits.deBruijn32tab", laid_math_bits_deBruijn32tab), ("math/bits.deBruijn64tab", laid_math_bits_deBruijn64tab), ("internal/strconv.uint64pow10", laid_internal_strconv_uint64pow10)], narrowed := true }
def PairCombinesUptoSaid : Prop := pairCombinesUptoRow.holds Tryz.pinned (OpenSpec.upto pairCombinesSpec)

/-- 'cayleylaw08.PairProjects', WHERE WHAT IT READS IS OF BULK AT MOST 1048576: true; the input reads as it did. -/
def pairProjectsUptoRow : OpenClaim := { program := "ytfbakhgmmnblfaagreatdoor", sum := "660b0224f45e533689f9adc6626edcc024e6a6783f1ef149a0d29caf1a1d5760", func := "cayley/cayleylaw08.PairProjects", spec := "pairProjects", unfollowed := true, recurses := true, named := ["internal/strconv.uint64pow10", "math/bits.deBruijn32tab", "math/bits.deBruijn64tab"], plainKeys := false, apart := false, laid := [("math/bits.deBruijn32tab", laid_math_bits_deBruijn32tab), ("math/bits.deBruijn64tab", laid_math_bits_deBruijn64tab), ("internal/strconv.uint64pow10", laid_internal_strconv_uint64pow10)], narrowed := true }
def PairProjectsUptoSaid : Prop := pairProjectsUptoRow.holds Tryz.pinned (OpenSpec.upto pairProjectsSpec)

/-- 'cayleylaw08.PairAlgebra', WHERE WHAT IT READS IS OF BULK AT MOST 1048576: true; the input reads as it did. -/
def pairAlgebraUptoRow : OpenClaim := { program := "ytfbakhgmmnblfaagreatdoor", sum := "660b0224f45e533689f9adc6626edcc024e6a6783f1ef149a0d29caf1a1d5760", func := "cayley/cayleylaw08.PairAlgebra", spec := "pairAlgebra", unfollowed := true, recurses := true, named := ["internal/strconv.uint64pow10", "math/bits.deBruijn32tab", "math/bits.deBruijn64tab"], plainKeys := false, apart := false, laid := [("math/bits.deBruijn32tab", laid_math_bits_deBruijn32tab), ("math/bits.deBruijn64tab", laid_math_bits_deBruijn64tab), ("internal/strconv.uint64pow10", laid_internal_strconv_uint64pow10)], narrowed := true }
def PairAlgebraUptoSaid : Prop := pairAlgebraUptoRow.holds Tryz.pinned (OpenSpec.upto pairAlgebraSpec)

/-- 'cayleylaw08.PairStays', WHERE WHAT IT READS IS OF BULK AT MOST 1048576: true; the input reads as it did. -/
def pairStaysUptoRow : OpenClaim := { program := "ytfbakhgmmnblfaagreatdoor", sum := "660b0224f45e533689f9adc6626edcc024e6a6783f1ef149a0d29caf1a1d5760", func := "cayley/cayleylaw08.PairStays", spec := "pairStays", unfollowed := true, recurses := true, named := ["internal/strconv.uint64pow10", "math/bits.deBruijn32tab", "math/bits.deBruijn64tab"], plainKeys := false, apart := false, laid := [("math/bits.deBruijn32tab", laid_math_bits_deBruijn32tab), ("math/bits.deBruijn64tab", laid_math_bits_deBruijn64tab), ("internal/strconv.uint64pow10", laid_internal_strconv_uint64pow10)], narrowed := true }
def PairStaysUptoSaid : Prop := pairStaysUptoRow.holds Tryz.pinned (OpenSpec.upto pairStaysSpec)

end Rows
end Go.Proofs.YtfbakhgmmnblfaaGreatDoor
