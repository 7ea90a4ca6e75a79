/-
  NARROWER THAN 'FOR EVERY INPUT', by the rows' own cells (each row's printed sentence says how): FsaBasics: laid · FsaFinds: laid · FsaCanon: laid · FsaWitness: laid · FsaMakes: laid · FsaAccepted: laid · FsaLaws: laid · FsaStays: laid.
  DERIVED. THE GIVEN ROWS OF THIS SEAT. 8 by the template 'for every input the law returns true; each argument reads behind the call as it read before'; 0 by the template 'total and deterministic' (their statements: YtfjbdkmmoinngaaGreatDoorTotals.lean).
  GIVEN WITH THE SEED: the statements are not yours to turn. If you find one false, say at which input.
  Laid BY PROGRAM, IN A SANDBOX (cutbox-rows.mjs): the forced cells as the released guide's own fill.sh prints them over the translation 09a1acaf5e0ab7dd… (all of the seat's roots in one cut). By AI agents, Wed Nov 11 2026. No macro, syntax, notation, axiom, sorry.
-/
import Derived.Test.YtfjbdkmmoinngaaGreatDoorChecked
import GoSem.Claim
import GoSem.ClaimJoined
import GoSem.ClaimMapViews
import Derived.JoinedTies
import Derived.KernelRfl
namespace Go.Proofs.YtfjbdkmmoinngaaGreatDoor
/- THE CELL 'sum', in the pinned program and in every row, IS THE sha256 OF THE DUMP (.gsa) THAT YtfjbdkmmoinngaaGreatDoorProg.lean LOADS. Nothing in Lean hashes anything: it is a label: what it is worth is what the hold of that sum in a sandbox is worth. -/
noncomputable def Tryz.pinned : Pinned := { name := "ytfjbdkmmoinngaagreatdoor", sum := "09a1acaf5e0ab7ddc55a8554b943a2fb5d4e85766b7988addee25f9d97370621", checked := Tryz.checked }
namespace Rows
def none {H : Type} : Left H := { results := [], args := [] }

/- WHAT THE LISTED PACKAGE-LEVEL VARIABLES READ AS WHEN THE CALL BEGINS. Each datum BY PROGRAM (the guide's laid-datum.mjs) off the statement by which the dump's own 'gosem.cut.vars' lays the variable. In a bare row this is a premise. The card (YtfjbdkmmoinngaaGreatDoorCards.lean) ties it to the program's text. -/
def laid_math_bits_deBruijn32tab {H : Type} : DataW H := .agg [.lit (.int .u8 0), .lit (.int .u8 1), .lit (.int .u8 28), .lit (.int .u8 2), .lit (.int .u8 29), .lit (.int .u8 14), .lit (.int .u8 24), .lit (.int .u8 3), .lit (.int .u8 30), .lit (.int .u8 22), .lit (.int .u8 20), .lit (.int .u8 15), .lit (.int .u8 25), .lit (.int .u8 17), .lit (.int .u8 4), .lit (.int .u8 8), .lit (.int .u8 31), .lit (.int .u8 27), .lit (.int .u8 13), .lit (.int .u8 23), .lit (.int .u8 21), .lit (.int .u8 19), .lit (.int .u8 16), .lit (.int .u8 7), .lit (.int .u8 26), .lit (.int .u8 12), .lit (.int .u8 18), .lit (.int .u8 6), .lit (.int .u8 11), .lit (.int .u8 5), .lit (.int .u8 10), .lit (.int .u8 9)]
def laid_math_bits_deBruijn64tab {H : Type} : DataW H := .agg [.lit (.int .u8 0), .lit (.int .u8 1), .lit (.int .u8 56), .lit (.int .u8 2), .lit (.int .u8 57), .lit (.int .u8 49), .lit (.int .u8 28), .lit (.int .u8 3), .lit (.int .u8 61), .lit (.int .u8 58), .lit (.int .u8 42), .lit (.int .u8 50), .lit (.int .u8 38), .lit (.int .u8 29), .lit (.int .u8 17), .lit (.int .u8 4), .lit (.int .u8 62), .lit (.int .u8 47), .lit (.int .u8 59), .lit (.int .u8 36), .lit (.int .u8 45), .lit (.int .u8 43), .lit (.int .u8 51), .lit (.int .u8 22), .lit (.int .u8 53), .lit (.int .u8 39), .lit (.int .u8 33), .lit (.int .u8 30), .lit (.int .u8 24), .lit (.int .u8 18), .lit (.int .u8 12), .lit (.int .u8 5), .lit (.int .u8 63), .lit (.int .u8 55), .lit (.int .u8 48), .lit (.int .u8 27), .lit (.int .u8 60), .lit (.int .u8 41), .lit (.int .u8 37), .lit (.int .u8 16), .lit (.int .u8 46), .lit (.int .u8 35), .lit (.int .u8 44), .lit (.int .u8 21), .lit (.int .u8 52), .lit (.int .u8 32), .lit (.int .u8 23), .lit (.int .u8 11), .lit (.int .u8 54), .lit (.int .u8 26), .lit (.int .u8 40), .lit (.int .u8 15), .lit (.int .u8 34), .lit (.int .u8 20), .lit (.int .u8 31), .lit (.int .u8 10), .lit (.int .u8 25), .lit (.int .u8 14), .lit (.int .u8 19), .lit (.int .u8 9), .lit (.int .u8 13), .lit (.int .u8 8), .lit (.int .u8 7), .lit (.int .u8 6)]
def laid_internal_strconv_uint64pow10 {H : Type} : DataW H := .agg [.lit (.int .u64 1), .lit (.int .u64 10), .lit (.int .u64 100), .lit (.int .u64 1000), .lit (.int .u64 10000), .lit (.int .u64 100000), .lit (.int .u64 1000000), .lit (.int .u64 10000000), .lit (.int .u64 100000000), .lit (.int .u64 1000000000), .lit (.int .u64 10000000000), .lit (.int .u64 100000000000), .lit (.int .u64 1000000000000), .lit (.int .u64 10000000000000), .lit (.int .u64 100000000000000), .lit (.int .u64 1000000000000000), .lit (.int .u64 10000000000000000), .lit (.int .u64 100000000000000000), .lit (.int .u64 1000000000000000000), .lit (.int .u64 10000000000000000000)]

/-- 'cayleylaw06.FsaBasics': WHATEVER THE INPUT: true; the input reads as it did. -/
def fsaBasicsSpec : ChangeSpec := { name := "fsaBasics", fn := fun _ => fun
  | [d1, d2, d3, d4] => { results := [.lit (.bool true)], args := [d1, d2, d3, d4] }
  | _ => none }
def fsaBasicsRow : OpenClaim := { program := "ytfjbdkmmoinngaagreatdoor", sum := "09a1acaf5e0ab7ddc55a8554b943a2fb5d4e85766b7988addee25f9d97370621", func := "cayley/cayleylaw06.FsaBasics", spec := "fsaBasics", unfollowed := true, recurses := true, named := ["internal/strconv.uint64pow10", "math/bits.deBruijn32tab", "math/bits.deBruijn64tab"], plainKeys := false, apart := false, laid := [("math/bits.deBruijn32tab", laid_math_bits_deBruijn32tab), ("math/bits.deBruijn64tab", laid_math_bits_deBruijn64tab), ("internal/strconv.uint64pow10", laid_internal_strconv_uint64pow10)] }
def FsaBasicsSaid : Prop := fsaBasicsRow.holds Tryz.pinned (OpenSpec.ofChange fsaBasicsSpec)

/-- ITS FALSE NEIGHBOUR: 'it returns false'. Refute it at one input. -/
def fsaBasicsWrong : ChangeSpec := { name := "fsaBasics", fn := fun _ => fun
  | [d1, d2, d3, d4] => { results := [.lit (.bool false)], args := [d1, d2, d3, d4] }
  | _ => none }
def FsaBasicsWrongFalsely : Prop := fsaBasicsRow.holds Tryz.pinned (OpenSpec.ofChange fsaBasicsWrong)

/-- 'cayleylaw06.FsaFinds': WHATEVER THE INPUT: true; the input reads as it did. -/
def fsaFindsSpec : ChangeSpec := { name := "fsaFinds", fn := fun _ => fun
  | [d1, d2, d3, d4] => { results := [.lit (.bool true)], args := [d1, d2, d3, d4] }
  | _ => none }
def fsaFindsRow : OpenClaim := { program := "ytfjbdkmmoinngaagreatdoor", sum := "09a1acaf5e0ab7ddc55a8554b943a2fb5d4e85766b7988addee25f9d97370621", func := "cayley/cayleylaw06.FsaFinds", spec := "fsaFinds", unfollowed := true, recurses := true, named := ["internal/strconv.uint64pow10", "math/bits.deBruijn32tab", "math/bits.deBruijn64tab"], plainKeys := false, apart := false, laid := [("math/bits.deBruijn32tab", laid_math_bits_deBruijn32tab), ("math/bits.deBruijn64tab", laid_math_bits_deBruijn64tab), ("internal/strconv.uint64pow10", laid_internal_strconv_uint64pow10)] }
def FsaFindsSaid : Prop := fsaFindsRow.holds Tryz.pinned (OpenSpec.ofChange fsaFindsSpec)

/-- ITS FALSE NEIGHBOUR: 'it returns false'. Refute it at one input. -/
def fsaFindsWrong : ChangeSpec := { name := "fsaFinds", fn := fun _ => fun
  | [d1, d2, d3, d4] => { results := [.lit (.bool false)], args := [d1, d2, d3, d4] }
  | _ => none }
def FsaFindsWrongFalsely : Prop := fsaFindsRow.holds Tryz.pinned (OpenSpec.ofChange fsaFindsWrong)

/-- 'cayleylaw06.FsaCanon': WHATEVER THE INPUT: true; the input reads as it did. -/
def fsaCanonSpec : ChangeSpec := { name := "fsaCanon", fn := fun _ => fun
  | [d1, d2, d3] => { results := [.lit (.bool true)], args := [d1, d2, d3] }
  | _ => none }
def fsaCanonRow : OpenClaim := { program := "ytfjbdkmmoinngaagreatdoor", sum := "09a1acaf5e0ab7ddc55a8554b943a2fb5d4e85766b7988addee25f9d97370621", func := "cayley/cayleylaw06.FsaCanon", spec := "fsaCanon", unfollowed := true, recurses := true, named := ["internal/strconv.uint64pow10", "math/bits.deBruijn32tab", "math/bits.deBruijn64tab"], plainKeys := false, apart := false, laid := [("math/bits.deBruijn32tab", laid_math_bits_deBruijn32tab), ("math/bits.deBruijn64tab", laid_math_bits_deBruijn64tab), ("internal/strconv.uint64pow10", laid_internal_strconv_uint64pow10)] }
def FsaCanonSaid : Prop := fsaCanonRow.holds Tryz.pinned (OpenSpec.ofChange fsaCanonSpec)

/-- ITS FALSE NEIGHBOUR: 'it returns false'. Refute it at one input. -/
def fsaCanonWrong : ChangeSpec := { name := "fsaCanon", fn := fun _ => fun
  | [d1, d2, d3] => { results := [.lit (.bool false)], args := [d1, d2, d3] }
  | _ => none }
def FsaCanonWrongFalsely : Prop := fsaCanonRow.holds Tryz.pinned (OpenSpec.ofChange fsaCanonWrong)

/-- 'cayleylaw06.FsaWitness': WHATEVER THE INPUT: true; the input reads as it did. -/
def fsaWitnessSpec : ChangeSpec := { name := "fsaWitness", fn := fun _ => fun
  | [d1, d2, d3, d4, d5] => { results := [.lit (.bool true)], args := [d1, d2, d3, d4, d5] }
  | _ => none }
def fsaWitnessRow : OpenClaim := { program := "ytfjbdkmmoinngaagreatdoor", sum := "09a1acaf5e0ab7ddc55a8554b943a2fb5d4e85766b7988addee25f9d97370621", func := "cayley/cayleylaw06.FsaWitness", spec := "fsaWitness", unfollowed := true, recurses := true, named := ["internal/strconv.uint64pow10", "math/bits.deBruijn32tab", "math/bits.deBruijn64tab"], plainKeys := false, apart := false, laid := [("math/bits.deBruijn32tab", laid_math_bits_deBruijn32tab), ("math/bits.deBruijn64tab", laid_math_bits_deBruijn64tab), ("internal/strconv.uint64pow10", laid_internal_strconv_uint64pow10)] }
def FsaWitnessSaid : Prop := fsaWitnessRow.holds Tryz.pinned (OpenSpec.ofChange fsaWitnessSpec)

/-- ITS FALSE NEIGHBOUR: 'it returns false'. Refute it at one input. -/
def fsaWitnessWrong : ChangeSpec := { name := "fsaWitness", fn := fun _ => fun
  | [d1, d2, d3, d4, d5] => { results := [.lit (.bool false)], args := [d1, d2, d3, d4, d5] }
  | _ => none }
def FsaWitnessWrongFalsely : Prop := fsaWitnessRow.holds Tryz.pinned (OpenSpec.ofChange fsaWitnessWrong)

/-- 'cayleylaw06.FsaMakes': WHATEVER THE INPUT: true; the input reads as it did. -/
def fsaMakesSpec : ChangeSpec := { name := "fsaMakes", fn := fun _ => fun
  | [d1, d2, d3, d4, d5] => { results := [.lit (.bool true)], args := [d1, d2, d3, d4, d5] }
  | _ => none }
def fsaMakesRow : OpenClaim := { program := "ytfjbdkmmoinngaagreatdoor", sum := "09a1acaf5e0ab7ddc55a8554b943a2fb5d4e85766b7988addee25f9d97370621", func := "cayley/cayleylaw06.FsaMakes", spec := "fsaMakes", unfollowed := true, recurses := true, named := ["internal/strconv.uint64pow10", "math/bits.deBruijn32tab", "math/bits.deBruijn64tab"], plainKeys := false, apart := false, laid := [("math/bits.deBruijn32tab", laid_math_bits_deBruijn32tab), ("math/bits.deBruijn64tab", laid_math_bits_deBruijn64tab), ("internal/strconv.uint64pow10", laid_internal_strconv_uint64pow10)] }
def FsaMakesSaid : Prop := fsaMakesRow.holds Tryz.pinned (OpenSpec.ofChange fsaMakesSpec)

/-- ITS FALSE NEIGHBOUR: 'it returns false'. Refute it at one input. -/
def fsaMakesWrong : ChangeSpec := { name := "fsaMakes", fn := fun _ => fun
  | [d1, d2, d3, d4, d5] => { results := [.lit (.bool false)], args := [d1, d2, d3, d4, d5] }
  | _ => none }
def FsaMakesWrongFalsely : Prop := fsaMakesRow.holds Tryz.pinned (OpenSpec.ofChange fsaMakesWrong)

/-- 'cayleylaw06.FsaAccepted': WHATEVER THE INPUT: true; the input reads as it did. -/
def fsaAcceptedSpec : ChangeSpec := { name := "fsaAccepted", fn := fun _ => fun
  | [d1, d2, d3, d4] => { results := [.lit (.bool true)], args := [d1, d2, d3, d4] }
  | _ => none }
def fsaAcceptedRow : OpenClaim := { program := "ytfjbdkmmoinngaagreatdoor", sum := "09a1acaf5e0ab7ddc55a8554b943a2fb5d4e85766b7988addee25f9d97370621", func := "cayley/cayleylaw06.FsaAccepted", spec := "fsaAccepted", unfollowed := true, recurses := true, named := ["internal/strconv.uint64pow10", "math/bits.deBruijn32tab", "math/bits.deBruijn64tab"], plainKeys := false, apart := false, laid := [("math/bits.deBruijn32tab", laid_math_bits_deBruijn32tab), ("math/bits.deBruijn64tab", laid_math_bits_deBruijn64tab), ("internal/strconv.uint64pow10", laid_internal_strconv_uint64pow10)] }
def FsaAcceptedSaid : Prop := fsaAcceptedRow.holds Tryz.pinned (OpenSpec.ofChange fsaAcceptedSpec)

/-- ITS FALSE NEIGHBOUR: 'it returns false'. Refute it at one input. -/
def fsaAcceptedWrong : ChangeSpec := { name := "fsaAccepted", fn := fun _ => fun
  | [d1, d2, d3, d4] => { results := [.lit (.bool false)], args := [d1, d2, d3, d4] }
  | _ => none }
def FsaAcceptedWrongFalsely : Prop := fsaAcceptedRow.holds Tryz.pinned (OpenSpec.ofChange fsaAcceptedWrong)

/-- 'cayleylaw06.FsaLaws': WHATEVER THE INPUT: true; the input reads as it did. -/
def fsaLawsSpec : ChangeSpec := { name := "fsaLaws", fn := fun _ => fun
  | [d1, d2, d3] => { results := [.lit (.bool true)], args := [d1, d2, d3] }
  | _ => none }
def fsaLawsRow : OpenClaim := { program := "ytfjbdkmmoinngaagreatdoor", sum := "09a1acaf5e0ab7ddc55a8554b943a2fb5d4e85766b7988addee25f9d97370621", func := "cayley/cayleylaw06.FsaLaws", spec := "fsaLaws", unfollowed := true, recurses := true, named := ["internal/strconv.uint64pow10", "math/bits.deBruijn32tab", "math/bits.deBruijn64tab"], plainKeys := false, apart := false, laid := [("math/bits.deBruijn32tab", laid_math_bits_deBruijn32tab), ("math/bits.deBruijn64tab", laid_math_bits_deBruijn64tab), ("internal/strconv.uint64pow10", laid_internal_strconv_uint64pow10)] }
def FsaLawsSaid : Prop := fsaLawsRow.holds Tryz.pinned (OpenSpec.ofChange fsaLawsSpec)

/-- ITS FALSE NEIGHBOUR: 'it returns false'. Refute it at one input. -/
def fsaLawsWrong : ChangeSpec := { name := "fsaLaws", fn := fun _ => fun
  | [d1, d2, d3] => { results := [.lit (.bool false)], args := [d1, d2, d3] }
  | _ => none }
def FsaLawsWrongFalsely : Prop := fsaLawsRow.holds Tryz.pinned (OpenSpec.ofChange fsaLawsWrong)

/-- 'cayleylaw06.FsaStays': WHATEVER THE INPUT: true; the input reads as it did. -/
def fsaStaysSpec : ChangeSpec := { name := "fsaStays", fn := fun _ => fun
  | [d1, d2, d3, d4, d5, d6, d7, d8] => { results := [.lit (.bool true)], args := [d1, d2, d3, d4, d5, d6, d7, d8] }
  | _ => none }
def fsaStaysRow : OpenClaim := { program := "ytfjbdkmmoinngaagreatdoor", sum := "09a1acaf5e0ab7ddc55a8554b943a2fb5d4e85766b7988addee25f9d97370621", func := "cayley/cayleylaw06.FsaStays", spec := "fsaStays", unfollowed := true, recurses := true, named := ["internal/strconv.uint64pow10", "math/bits.deBruijn32tab", "math/bits.deBruijn64tab"], plainKeys := false, apart := false, laid := [("math/bits.deBruijn32tab", laid_math_bits_deBruijn32tab), ("math/bits.deBruijn64tab", laid_math_bits_deBruijn64tab), ("internal/strconv.uint64pow10", laid_internal_strconv_uint64pow10)] }
def FsaStaysSaid : Prop := fsaStaysRow.holds Tryz.pinned (OpenSpec.ofChange fsaStaysSpec)

/-- ITS FALSE NEIGHBOUR: 'it returns false'. Refute it at one input. -/
def fsaStaysWrong : ChangeSpec := { name := "fsaStays", fn := fun _ => fun
  | [d1, d2, d3, d4, d5, d6, d7, d8] => { results := [.lit (.bool false)], args := [d1, d2, d3, d4, d5, d6, d7, d8] }
  | _ => none }
def FsaStaysWrongFalsely : Prop := fsaStaysRow.holds Tryz.pinned (OpenSpec.ofChange fsaStaysWrong)

/- THE SECOND FORM. 'bulk': how many values and letters a reading holds, each counted each time it is reached (what is shared counts as often as it is met; a slice's spare places count too). A statement '..UptoSaid' is the law's where the arguments, and the package variables that the reading takes, are together of bulk at most 1048576: NARROWER than '..Said'. Prove '..Said' where nothing that the law and all that it calls make is longer than what came in: it says more and counts as full. Else prove '..UptoSaid'. A law counts once. -/
mutual
def uptoBulk {H : Type} : DataW H → Nat
  | .lit (.string bytes) => bytes.length + 1
  | .lit _ => 1
  | .nil => 1
  | .ptr d => uptoBulk d + 1
  | .slice elems spare => uptoBulkAll elems + uptoBulkAll spare + 1
  | .agg parts => uptoBulkAll parts + 1
  | .iface _ d => uptoBulk d + 1
  | .map entries => uptoBulkEntries entries + 1
  | .held _ => 1
def uptoBulkAll {H : Type} : List (DataW H) → Nat
  | [] => 0
  | d :: r => uptoBulk d + uptoBulkAll r
def uptoBulkEntries {H : Type} : List (Lit × DataW H) → Nat
  | [] => 0
  | x :: r => uptoBulkEntry x + uptoBulkEntries r
def uptoBulkEntry {H : Type} : Lit × DataW H → Nat
  | (.string bytes, d) => bytes.length + uptoBulk d + 1
  | (_, d) => uptoBulk d + 1
 end
def uptoSmall : (H : Type) → List (DataW H) → Bool := fun _ ds => decide (uptoBulkAll ds ≤ 1048576)
def OpenSpec.upto (s : _root_.Go.ChangeSpec) : _root_.Go.OpenSpec := { _root_.Go.OpenSpec.ofChange s with cond := some uptoSmall }

/-- 'cayleylaw06.FsaBasics', WHERE WHAT IT READS IS OF BULK AT MOST 1048576: true; the input reads as it did. -/
def fsaBasicsUptoRow : OpenClaim := { program := "ytfjbdkmmoinngaagreatdoor", sum := "09a1acaf5e0ab7ddc55a8554b943a2fb5d4e85766b7988addee25f9d97370621", func := "cayley/cayleylaw06.FsaBasics", spec := "fsaBasics", unfollowed := true, recurses := true, named := ["internal/strconv.uint64pow10", "math/bits.deBruijn32tab", "math/bits.deBruijn64tab"], plainKeys := false, apart := false, laid := [("math/bits.deBruijn32tab", laid_math_bits_deBruijn32tab), ("math/bits.deBruijn64tab", laid_math_bits_deBruijn64tab), ("internal/strconv.uint64pow10", laid_internal_strconv_uint64pow10)], narrowed := true }
def FsaBasicsUptoSaid : Prop := fsaBasicsUptoRow.holds Tryz.pinned (OpenSpec.upto fsaBasicsSpec)

/-- 'cayleylaw06.FsaFinds', WHERE WHAT IT READS IS OF BULK AT MOST 1048576: true; the input reads as it did. -/
def fsaFindsUptoRow : OpenClaim := { program := "ytfjbdkmmoinngaagreatdoor", sum := "09a1acaf5e0ab7ddc55a8554b943a2fb5d4e85766b7988addee25f9d97370621", func := "cayley/cayleylaw06.FsaFinds", spec := "fsaFinds", unfollowed := true, recurses := true, named := ["internal/strconv.uint64pow10", "math/bits.deBruijn32tab", "math/bits.deBruijn64tab"], plainKeys := false, apart := false, laid := [("math/bits.deBruijn32tab", laid_math_bits_deBruijn32tab), ("math/bits.deBruijn64tab", laid_math_bits_deBruijn64tab), ("internal/strconv.uint64pow10", laid_internal_strconv_uint64pow10)], narrowed := true }
def FsaFindsUptoSaid : Prop := fsaFindsUptoRow.holds Tryz.pinned (OpenSpec.upto fsaFindsSpec)

/-- 'cayleylaw06.FsaCanon', WHERE WHAT IT READS IS OF BULK AT MOST 1048576: true; the input reads as it did. -/
def fsaCanonUptoRow : OpenClaim := { program := "ytfjbdkmmoinngaagreatdoor", sum := "09a1acaf5e0ab7ddc55a8554b943a2fb5d4e85766b7988addee25f9d97370621", func := "cayley/cayleylaw06.FsaCanon", spec := "fsaCanon", unfollowed := true, recurses := true, named := ["internal/strconv.uint64pow10", "math/bits.deBruijn32tab", "math/bits.deBruijn64tab"], plainKeys := false, apart := false, laid := [("math/bits.deBruijn32tab", laid_math_bits_deBruijn32tab), ("math/bits.deBruijn64tab", laid_math_bits_deBruijn64tab), ("internal/strconv.uint64pow10", laid_internal_strconv_uint64pow10)], narrowed := true }
def FsaCanonUptoSaid : Prop := fsaCanonUptoRow.holds Tryz.pinned (OpenSpec.upto fsaCanonSpec)

/-- 'cayleylaw06.FsaWitness', WHERE WHAT IT READS IS OF BULK AT MOST 1048576: true; the input reads as it did. -/
def fsaWitnessUptoRow : OpenClaim := { program := "ytfjbdkmmoinngaagreatdoor", sum := "09a1acaf5e0ab7ddc55a8554b943a2fb5d4e85766b7988addee25f9d97370621", func := "cayley/cayleylaw06.FsaWitness", spec := "fsaWitness", unfollowed := true, recurses := true, named := ["internal/strconv.uint64pow10", "math/bits.deBruijn32tab", "math/bits.deBruijn64tab"], plainKeys := false, apart := false, laid := [("math/bits.deBruijn32tab", laid_math_bits_deBruijn32tab), ("math/bits.deBruijn64tab", laid_math_bits_deBruijn64tab), ("internal/strconv.uint64pow10", laid_internal_strconv_uint64pow10)], narrowed := true }
def FsaWitnessUptoSaid : Prop := fsaWitnessUptoRow.holds Tryz.pinned (OpenSpec.upto fsaWitnessSpec)

/-- 'cayleylaw06.FsaMakes', WHERE WHAT IT READS IS OF BULK AT MOST 1048576: true; the input reads as it did. -/
def fsaMakesUptoRow : OpenClaim := { program := "ytfjbdkmmoinngaagreatdoor", sum := "09a1acaf5e0ab7ddc55a8554b943a2fb5d4e85766b7988addee25f9d97370621", func := "cayley/cayleylaw06.FsaMakes", spec := "fsaMakes", unfollowed := true, recurses := true, named := ["internal/strconv.uint64pow10", "math/bits.deBruijn32tab", "math/bits.deBruijn64tab"], plainKeys := false, apart := false, laid := [("math/bits.deBruijn32tab", laid_math_bits_deBruijn32tab), ("math/bits.deBruijn64tab", laid_math_bits_deBruijn64tab), ("internal/strconv.uint64pow10", laid_internal_strconv_uint64pow10)], narrowed := true }
def FsaMakesUptoSaid : Prop := fsaMakesUptoRow.holds Tryz.pinned (OpenSpec.upto fsaMakesSpec)

/-- 'cayleylaw06.FsaAccepted', WHERE WHAT IT READS IS OF BULK AT MOST 1048576: true; the input reads as it did. -/
def fsaAcceptedUptoRow : OpenClaim := { program := "ytfjbdkmmoinngaagreatdoor", sum := "09a1acaf5e0ab7ddc55a8554b943a2fb5d4e85766b7988addee25f9d97370621", func := "cayley/cayleylaw06.FsaAccepted", spec := "fsaAccepted", unfollowed := true, recurses := true, named := ["internal/strconv.uint64pow10", "math/bits.deBruijn32tab", "math/bits.deBruijn64tab"], plainKeys := false, apart := false, laid := [("math/bits.deBruijn32tab", laid_math_bits_deBruijn32tab), ("math/bits.deBruijn64tab", laid_math_bits_deBruijn64tab), ("internal/strconv.uint64pow10", laid_internal_strconv_uint64pow10)], narrowed := true }
def FsaAcceptedUptoSaid : Prop := fsaAcceptedUptoRow.holds Tryz.pinned (OpenSpec.upto fsaAcceptedSpec)

/-- 'cayleylaw06.FsaLaws', WHERE WHAT IT READS IS OF BULK AT MOST 1048576: true; the input reads as it did. -/
def fsaLawsUptoRow : OpenClaim := { program := "ytfjbdkmmoinngaagreatdoor", sum := "09a1acaf5e0ab7ddc55a8554b943a2fb5d4e85766b7988addee25f9d97370621", func := "cayley/cayleylaw06.FsaLaws", spec := "fsaLaws", unfollowed := true, recurses := true, named := ["internal/strconv.uint64pow10", "math/bits.deBruijn32tab", "math/bits.deBruijn64tab"], plainKeys := false, apart := false, laid := [("math/bits.deBruijn32tab", laid_math_bits_deBruijn32tab), ("math/bits.deBruijn64tab", laid_math_bits_deBruijn64tab), ("internal/strconv.uint64pow10", laid_internal_strconv_uint64pow10)], narrowed := true }
def FsaLawsUptoSaid : Prop := fsaLawsUptoRow.holds Tryz.pinned (OpenSpec.upto fsaLawsSpec)

/-- 'cayleylaw06.FsaStays', WHERE WHAT IT READS IS OF BULK AT MOST 1048576: true; the input reads as it did. -/
def fsaStaysUptoRow : OpenClaim := { program := "ytfjbdkmmoinngaagreatdoor", sum := "09a1acaf5e0ab7ddc55a8554b943a2fb5d4e85766b7988addee25f9d97370621", func := "cayley/cayleylaw06.FsaStays", spec := "fsaStays", unfollowed := true, recurses := true, named := ["internal/strconv.uint64pow10", "math/bits.deBruijn32tab", "math/bits.deBruijn64tab"], plainKeys := false, apart := false, laid := [("math/bits.deBruijn32tab", laid_math_bits_deBruijn32tab), ("math/bits.deBruijn64tab", laid_math_bits_deBruijn64tab), ("internal/strconv.uint64pow10", laid_internal_strconv_uint64pow10)], narrowed := true }
def FsaStaysUptoSaid : Prop := fsaStaysUptoRow.holds Tryz.pinned (OpenSpec.upto fsaStaysSpec)

end Rows
end Go.Proofs.YtfjbdkmmoinngaaGreatDoor
