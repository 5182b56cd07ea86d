/-
  NARROWER THAN 'FOR EVERY INPUT', by the rows' own cells (each row's printed sentence says how): FnExactFormatNumbers: laid · FnExactSetsText: laid · FnExactGraphText: laid · FnExactFormatRound: laid · FnExactFormatPoints: laid · FnExactFormatTeams: laid · FnExactParseGraph: laid · FnExactFormatClub: laid.
  DERIVED. THE GIVEN ROWS OF THIS SEAT. 8 by the template 'for every input the law returns true; each argument reads behind the call as it read before'; 0 by the template 'total and deterministic' (their statements: YthdoldaaodmeeaaDoorTotals.lean).
  GIVEN WITH THE SEED: the statements are not yours to turn. If you find one false, say at which input.
  Laid BY PROGRAM, IN A SANDBOX (cutbox-rows.mjs): the forced cells as the released guide's own fill.sh prints them over the translation 6f23392871941e19… (all of the seat's roots in one cut). By AI agents, Wed Nov 11 2026. No macro, syntax, notation, axiom, sorry.
-/
import Derived.Test.YthdoldaaodmeeaaDoorChecked
import GoSem.PinnedTables
import GoSem.Claim
import GoSem.ClaimJoined
import GoSem.ClaimMapViews
import Derived.JoinedTies
import Derived.KernelRfl
namespace Go.Proofs.YthdoldaaodmeeaaDoor
/- THE CELL 'sum', in the pinned program and in every row, IS THE sha256 OF THE DUMP (.gsa) THAT YthdoldaaodmeeaaDoorProg.lean LOADS. Nothing in Lean hashes anything: it is a label: what it is worth is what the hold of that sum in a sandbox is worth. -/
noncomputable def Tryd.pinned : Pinned := { name := "ythdoldaaodmeeaadoor", sum := "6f23392871941e195178971978a94dd86cf1f0fe4d74d80c60d26c1790c7c5b5", checked := Tryd.checked }
namespace Rows
def none {H : Type} : Left H := { results := [], args := [] }

/- WHAT THE LISTED PACKAGE-LEVEL VARIABLES READ AS WHEN THE CALL BEGINS. Each datum BY PROGRAM (the guide's laid-datum.mjs) off the statement by which the dump's own 'gosem.cut.vars' lays the variable. In a bare row this is a premise. The card (YthdoldaaodmeeaaDoorCards.lean) ties it to the program's text. -/
def laid_math_bits_deBruijn32tab {H : Type} : DataW H := .agg [.lit (.int .u8 0), .lit (.int .u8 1), .lit (.int .u8 28), .lit (.int .u8 2), .lit (.int .u8 29), .lit (.int .u8 14), .lit (.int .u8 24), .lit (.int .u8 3), .lit (.int .u8 30), .lit (.int .u8 22), .lit (.int .u8 20), .lit (.int .u8 15), .lit (.int .u8 25), .lit (.int .u8 17), .lit (.int .u8 4), .lit (.int .u8 8), .lit (.int .u8 31), .lit (.int .u8 27), .lit (.int .u8 13), .lit (.int .u8 23), .lit (.int .u8 21), .lit (.int .u8 19), .lit (.int .u8 16), .lit (.int .u8 7), .lit (.int .u8 26), .lit (.int .u8 12), .lit (.int .u8 18), .lit (.int .u8 6), .lit (.int .u8 11), .lit (.int .u8 5), .lit (.int .u8 10), .lit (.int .u8 9)]
def laid_math_bits_deBruijn64tab {H : Type} : DataW H := .agg [.lit (.int .u8 0), .lit (.int .u8 1), .lit (.int .u8 56), .lit (.int .u8 2), .lit (.int .u8 57), .lit (.int .u8 49), .lit (.int .u8 28), .lit (.int .u8 3), .lit (.int .u8 61), .lit (.int .u8 58), .lit (.int .u8 42), .lit (.int .u8 50), .lit (.int .u8 38), .lit (.int .u8 29), .lit (.int .u8 17), .lit (.int .u8 4), .lit (.int .u8 62), .lit (.int .u8 47), .lit (.int .u8 59), .lit (.int .u8 36), .lit (.int .u8 45), .lit (.int .u8 43), .lit (.int .u8 51), .lit (.int .u8 22), .lit (.int .u8 53), .lit (.int .u8 39), .lit (.int .u8 33), .lit (.int .u8 30), .lit (.int .u8 24), .lit (.int .u8 18), .lit (.int .u8 12), .lit (.int .u8 5), .lit (.int .u8 63), .lit (.int .u8 55), .lit (.int .u8 48), .lit (.int .u8 27), .lit (.int .u8 60), .lit (.int .u8 41), .lit (.int .u8 37), .lit (.int .u8 16), .lit (.int .u8 46), .lit (.int .u8 35), .lit (.int .u8 44), .lit (.int .u8 21), .lit (.int .u8 52), .lit (.int .u8 32), .lit (.int .u8 23), .lit (.int .u8 11), .lit (.int .u8 54), .lit (.int .u8 26), .lit (.int .u8 40), .lit (.int .u8 15), .lit (.int .u8 34), .lit (.int .u8 20), .lit (.int .u8 31), .lit (.int .u8 10), .lit (.int .u8 25), .lit (.int .u8 14), .lit (.int .u8 19), .lit (.int .u8 9), .lit (.int .u8 13), .lit (.int .u8 8), .lit (.int .u8 7), .lit (.int .u8 6)]
def laid_internal_strconv_uint64pow10 {H : Type} : DataW H := .agg [.lit (.int .u64 1), .lit (.int .u64 10), .lit (.int .u64 100), .lit (.int .u64 1000), .lit (.int .u64 10000), .lit (.int .u64 100000), .lit (.int .u64 1000000), .lit (.int .u64 10000000), .lit (.int .u64 100000000), .lit (.int .u64 1000000000), .lit (.int .u64 10000000000), .lit (.int .u64 100000000000), .lit (.int .u64 1000000000000), .lit (.int .u64 10000000000000), .lit (.int .u64 100000000000000), .lit (.int .u64 1000000000000000), .lit (.int .u64 10000000000000000), .lit (.int .u64 100000000000000000), .lit (.int .u64 1000000000000000000), .lit (.int .u64 10000000000000000000)]
def laid_unicode_utf8_acceptRanges {H : Type} : DataW H := .agg [.agg [.lit (.int .u8 128), .lit (.int .u8 191)], .agg [.lit (.int .u8 160), .lit (.int .u8 191)], .agg [.lit (.int .u8 128), .lit (.int .u8 159)], .agg [.lit (.int .u8 144), .lit (.int .u8 191)], .agg [.lit (.int .u8 128), .lit (.int .u8 143)], .agg [.lit (.int .u8 0), .lit (.int .u8 0)], .agg [.lit (.int .u8 0), .lit (.int .u8 0)], .agg [.lit (.int .u8 0), .lit (.int .u8 0)], .agg [.lit (.int .u8 0), .lit (.int .u8 0)], .agg [.lit (.int .u8 0), .lit (.int .u8 0)], .agg [.lit (.int .u8 0), .lit (.int .u8 0)], .agg [.lit (.int .u8 0), .lit (.int .u8 0)], .agg [.lit (.int .u8 0), .lit (.int .u8 0)], .agg [.lit (.int .u8 0), .lit (.int .u8 0)], .agg [.lit (.int .u8 0), .lit (.int .u8 0)], .agg [.lit (.int .u8 0), .lit (.int .u8 0)]]
/-- One of Go's own tables, pinned by name: the form's constant. -/
def laid_unicode_utf8_first : DataW Unit := Go.Pinned.utf8First

/-- 'laws.FnExactFormatNumbers': WHATEVER THE INPUT: true; the input reads as it did. -/
def fnExactFormatNumbersSpec : ChangeSpec := { name := "fnExactFormatNumbers", fn := fun _ => fun
  | [d] => { results := [.lit (.bool true)], args := [d] }
  | _ => none }
def fnExactFormatNumbersRow : OpenClaim := { program := "ythdoldaaodmeeaadoor", sum := "6f23392871941e195178971978a94dd86cf1f0fe4d74d80c60d26c1790c7c5b5", func := "loop.example/g03009/laws.FnExactFormatNumbers", spec := "fnExactFormatNumbers", inPlace := ["internal/abi.NoEscape", "internal/bytealg.MakeNoZero"], named := ["internal/strconv.uint64pow10", "math/bits.deBruijn32tab", "math/bits.deBruijn64tab"], apart := false, laid := [("math/bits.deBruijn32tab", laid_math_bits_deBruijn32tab), ("math/bits.deBruijn64tab", laid_math_bits_deBruijn64tab), ("internal/strconv.uint64pow10", laid_internal_strconv_uint64pow10)] }
def FnExactFormatNumbersSaid : Prop := fnExactFormatNumbersRow.holds Tryd.pinned (OpenSpec.ofChange fnExactFormatNumbersSpec)

/-- ITS FALSE NEIGHBOUR: 'it returns false'. Refute it at one input. -/
def fnExactFormatNumbersWrong : ChangeSpec := { name := "fnExactFormatNumbers", fn := fun _ => fun
  | [d] => { results := [.lit (.bool false)], args := [d] }
  | _ => none }
def FnExactFormatNumbersWrongFalsely : Prop := fnExactFormatNumbersRow.holds Tryd.pinned (OpenSpec.ofChange fnExactFormatNumbersWrong)

/-- 'laws.FnExactSetsText': WHATEVER THE INPUT: true; the input reads as it did. -/
def fnExactSetsTextSpec : ChangeSpec := { name := "fnExactSetsText", fn := fun _ => fun
  | [d] => { results := [.lit (.bool true)], args := [d] }
  | _ => none }
def fnExactSetsTextRow : OpenClaim := { program := "ythdoldaaodmeeaadoor", sum := "6f23392871941e195178971978a94dd86cf1f0fe4d74d80c60d26c1790c7c5b5", func := "loop.example/g03009/laws.FnExactSetsText", spec := "fnExactSetsText", inPlace := ["internal/abi.NoEscape", "internal/bytealg.MakeNoZero"], named := ["internal/strconv.uint64pow10", "math/bits.deBruijn32tab", "math/bits.deBruijn64tab"], apart := false, laid := [("math/bits.deBruijn32tab", laid_math_bits_deBruijn32tab), ("math/bits.deBruijn64tab", laid_math_bits_deBruijn64tab), ("internal/strconv.uint64pow10", laid_internal_strconv_uint64pow10)] }
def FnExactSetsTextSaid : Prop := fnExactSetsTextRow.holds Tryd.pinned (OpenSpec.ofChange fnExactSetsTextSpec)

/-- ITS FALSE NEIGHBOUR: 'it returns false'. Refute it at one input. -/
def fnExactSetsTextWrong : ChangeSpec := { name := "fnExactSetsText", fn := fun _ => fun
  | [d] => { results := [.lit (.bool false)], args := [d] }
  | _ => none }
def FnExactSetsTextWrongFalsely : Prop := fnExactSetsTextRow.holds Tryd.pinned (OpenSpec.ofChange fnExactSetsTextWrong)

/-- 'laws.FnExactGraphText': WHATEVER THE INPUT: true; the input reads as it did. -/
def fnExactGraphTextSpec : ChangeSpec := { name := "fnExactGraphText", fn := fun _ => fun
  | [d] => { results := [.lit (.bool true)], args := [d] }
  | _ => none }
def fnExactGraphTextRow : OpenClaim := { program := "ythdoldaaodmeeaadoor", sum := "6f23392871941e195178971978a94dd86cf1f0fe4d74d80c60d26c1790c7c5b5", func := "loop.example/g03009/laws.FnExactGraphText", spec := "fnExactGraphText", named := ["internal/strconv.uint64pow10", "math/bits.deBruijn32tab", "math/bits.deBruijn64tab"], apart := false, laid := [("math/bits.deBruijn32tab", laid_math_bits_deBruijn32tab), ("math/bits.deBruijn64tab", laid_math_bits_deBruijn64tab), ("internal/strconv.uint64pow10", laid_internal_strconv_uint64pow10)] }
def FnExactGraphTextSaid : Prop := fnExactGraphTextRow.holds Tryd.pinned (OpenSpec.ofChange fnExactGraphTextSpec)

/-- ITS FALSE NEIGHBOUR: 'it returns false'. Refute it at one input. -/
def fnExactGraphTextWrong : ChangeSpec := { name := "fnExactGraphText", fn := fun _ => fun
  | [d] => { results := [.lit (.bool false)], args := [d] }
  | _ => none }
def FnExactGraphTextWrongFalsely : Prop := fnExactGraphTextRow.holds Tryd.pinned (OpenSpec.ofChange fnExactGraphTextWrong)

/-- 'laws.FnExactFormatRound': WHATEVER THE INPUT: true; the input reads as it did. -/
def fnExactFormatRoundSpec : ChangeSpec := { name := "fnExactFormatRound", fn := fun _ => fun
  | [d1, d2] => { results := [.lit (.bool true)], args := [d1, d2] }
  | _ => none }
def fnExactFormatRoundRow : OpenClaim := { program := "ythdoldaaodmeeaadoor", sum := "6f23392871941e195178971978a94dd86cf1f0fe4d74d80c60d26c1790c7c5b5", func := "loop.example/g03009/laws.FnExactFormatRound", spec := "fnExactFormatRound", inPlace := ["internal/abi.NoEscape", "internal/bytealg.MakeNoZero"], named := ["internal/strconv.uint64pow10", "math/bits.deBruijn32tab", "math/bits.deBruijn64tab"], apart := false, laid := [("math/bits.deBruijn32tab", laid_math_bits_deBruijn32tab), ("math/bits.deBruijn64tab", laid_math_bits_deBruijn64tab), ("internal/strconv.uint64pow10", laid_internal_strconv_uint64pow10)] }
def FnExactFormatRoundSaid : Prop := fnExactFormatRoundRow.holds Tryd.pinned (OpenSpec.ofChange fnExactFormatRoundSpec)

/-- ITS FALSE NEIGHBOUR: 'it returns false'. Refute it at one input. -/
def fnExactFormatRoundWrong : ChangeSpec := { name := "fnExactFormatRound", fn := fun _ => fun
  | [d1, d2] => { results := [.lit (.bool false)], args := [d1, d2] }
  | _ => none }
def FnExactFormatRoundWrongFalsely : Prop := fnExactFormatRoundRow.holds Tryd.pinned (OpenSpec.ofChange fnExactFormatRoundWrong)

/-- 'laws.FnExactFormatPoints': WHATEVER THE INPUT: true; the input reads as it did. -/
def fnExactFormatPointsSpec : ChangeSpec := { name := "fnExactFormatPoints", fn := fun _ => fun
  | [d] => { results := [.lit (.bool true)], args := [d] }
  | _ => none }
def fnExactFormatPointsRow : OpenClaim := { program := "ythdoldaaodmeeaadoor", sum := "6f23392871941e195178971978a94dd86cf1f0fe4d74d80c60d26c1790c7c5b5", func := "loop.example/g03009/laws.FnExactFormatPoints", spec := "fnExactFormatPoints", inPlace := ["internal/abi.NoEscape", "internal/bytealg.MakeNoZero"], named := ["internal/strconv.uint64pow10", "math/bits.deBruijn32tab", "math/bits.deBruijn64tab"], apart := false, laid := [("math/bits.deBruijn32tab", laid_math_bits_deBruijn32tab), ("math/bits.deBruijn64tab", laid_math_bits_deBruijn64tab), ("internal/strconv.uint64pow10", laid_internal_strconv_uint64pow10)] }
def FnExactFormatPointsSaid : Prop := fnExactFormatPointsRow.holds Tryd.pinned (OpenSpec.ofChange fnExactFormatPointsSpec)

/-- ITS FALSE NEIGHBOUR: 'it returns false'. Refute it at one input. -/
def fnExactFormatPointsWrong : ChangeSpec := { name := "fnExactFormatPoints", fn := fun _ => fun
  | [d] => { results := [.lit (.bool false)], args := [d] }
  | _ => none }
def FnExactFormatPointsWrongFalsely : Prop := fnExactFormatPointsRow.holds Tryd.pinned (OpenSpec.ofChange fnExactFormatPointsWrong)

/-- 'laws.FnExactFormatTeams': WHATEVER THE INPUT: true; the input reads as it did. -/
def fnExactFormatTeamsSpec : ChangeSpec := { name := "fnExactFormatTeams", fn := fun _ => fun
  | [d] => { results := [.lit (.bool true)], args := [d] }
  | _ => none }
def fnExactFormatTeamsRow : OpenClaim := { program := "ythdoldaaodmeeaadoor", sum := "6f23392871941e195178971978a94dd86cf1f0fe4d74d80c60d26c1790c7c5b5", func := "loop.example/g03009/laws.FnExactFormatTeams", spec := "fnExactFormatTeams", inPlace := ["internal/abi.NoEscape", "internal/bytealg.MakeNoZero"], named := ["internal/strconv.uint64pow10", "math/bits.deBruijn32tab", "math/bits.deBruijn64tab"], apart := false, laid := [("math/bits.deBruijn32tab", laid_math_bits_deBruijn32tab), ("math/bits.deBruijn64tab", laid_math_bits_deBruijn64tab), ("internal/strconv.uint64pow10", laid_internal_strconv_uint64pow10)] }
def FnExactFormatTeamsSaid : Prop := fnExactFormatTeamsRow.holds Tryd.pinned (OpenSpec.ofChange fnExactFormatTeamsSpec)

/-- ITS FALSE NEIGHBOUR: 'it returns false'. Refute it at one input. -/
def fnExactFormatTeamsWrong : ChangeSpec := { name := "fnExactFormatTeams", fn := fun _ => fun
  | [d] => { results := [.lit (.bool false)], args := [d] }
  | _ => none }
def FnExactFormatTeamsWrongFalsely : Prop := fnExactFormatTeamsRow.holds Tryd.pinned (OpenSpec.ofChange fnExactFormatTeamsWrong)

/-- 'laws.FnExactParseGraph': WHATEVER THE INPUT: true; the input reads as it did. -/
def fnExactParseGraphSpec : ChangeSpec := { name := "fnExactParseGraph", fn := fun _ => fun
  | [d] => { results := [.lit (.bool true)], args := [d] }
  | _ => none }
def fnExactParseGraphRow : OpenClaim := { program := "ythdoldaaodmeeaadoor", sum := "6f23392871941e195178971978a94dd86cf1f0fe4d74d80c60d26c1790c7c5b5", func := "loop.example/g03009/laws.FnExactParseGraph", spec := "fnExactParseGraph", inPlace := ["internal/bytealg.CountString", "internal/bytealg.IndexByteString", "internal/bytealg.IndexString"], named := ["unicode/utf8.first", "unicode/utf8.acceptRanges", "internal/bytealg.MaxLen", "internal/strconv.uint64pow10", "math/bits.deBruijn32tab", "math/bits.deBruijn64tab"], apart := false, laid := [("math/bits.deBruijn32tab", laid_math_bits_deBruijn32tab), ("math/bits.deBruijn64tab", laid_math_bits_deBruijn64tab), ("internal/strconv.uint64pow10", laid_internal_strconv_uint64pow10), ("unicode/utf8.acceptRanges", laid_unicode_utf8_acceptRanges), ("unicode/utf8.first", laid_unicode_utf8_first)] }
def FnExactParseGraphSaid : Prop := fnExactParseGraphRow.holds Tryd.pinned (OpenSpec.ofChange fnExactParseGraphSpec)

/-- ITS FALSE NEIGHBOUR: 'it returns false'. Refute it at one input. -/
def fnExactParseGraphWrong : ChangeSpec := { name := "fnExactParseGraph", fn := fun _ => fun
  | [d] => { results := [.lit (.bool false)], args := [d] }
  | _ => none }
def FnExactParseGraphWrongFalsely : Prop := fnExactParseGraphRow.holds Tryd.pinned (OpenSpec.ofChange fnExactParseGraphWrong)

/-- 'laws.FnExactFormatClub': WHATEVER THE INPUT: true; the input reads as it did. -/
def fnExactFormatClubSpec : ChangeSpec := { name := "fnExactFormatClub", fn := fun _ => fun
  | [d] => { results := [.lit (.bool true)], args := [d] }
  | _ => none }
def fnExactFormatClubRow : OpenClaim := { program := "ythdoldaaodmeeaadoor", sum := "6f23392871941e195178971978a94dd86cf1f0fe4d74d80c60d26c1790c7c5b5", func := "loop.example/g03009/laws.FnExactFormatClub", spec := "fnExactFormatClub", inPlace := ["internal/abi.NoEscape", "internal/bytealg.MakeNoZero"], named := ["internal/strconv.uint64pow10", "math/bits.deBruijn32tab", "math/bits.deBruijn64tab"], apart := false, laid := [("math/bits.deBruijn32tab", laid_math_bits_deBruijn32tab), ("math/bits.deBruijn64tab", laid_math_bits_deBruijn64tab), ("internal/strconv.uint64pow10", laid_internal_strconv_uint64pow10)] }
def FnExactFormatClubSaid : Prop := fnExactFormatClubRow.holds Tryd.pinned (OpenSpec.ofChange fnExactFormatClubSpec)

/-- ITS FALSE NEIGHBOUR: 'it returns false'. Refute it at one input. -/
def fnExactFormatClubWrong : ChangeSpec := { name := "fnExactFormatClub", fn := fun _ => fun
  | [d] => { results := [.lit (.bool false)], args := [d] }
  | _ => none }
def FnExactFormatClubWrongFalsely : Prop := fnExactFormatClubRow.holds Tryd.pinned (OpenSpec.ofChange fnExactFormatClubWrong)

/- THE SECOND FORM. 'bulk': how many values and letters a reading holds, each counted each time it is reached (what is shared counts as often as it is met; a slice's spare places count too). A statement '..UptoSaid' is the law's where the arguments, and the package variables that the reading takes, are together of bulk at most 1048576: NARROWER than '..Said'. Prove '..Said' where nothing that the law and all that it calls make is longer than what came in: it says more and counts as full. Else prove '..UptoSaid'. A law counts once. -/
mutual
def uptoBulk {H : Type} : DataW H → Nat
  | .lit (.string bytes) => bytes.length + 1
  | .lit _ => 1
  | .nil => 1
  | .ptr d => uptoBulk d + 1
  | .slice elems spare => uptoBulkAll elems + uptoBulkAll spare + 1
  | .agg parts => uptoBulkAll parts + 1
  | .iface _ d => uptoBulk d + 1
  | .map entries => uptoBulkEntries entries + 1
  | .held _ => 1
def uptoBulkAll {H : Type} : List (DataW H) → Nat
  | [] => 0
  | d :: r => uptoBulk d + uptoBulkAll r
def uptoBulkEntries {H : Type} : List (Lit × DataW H) → Nat
  | [] => 0
  | x :: r => uptoBulkEntry x + uptoBulkEntries r
def uptoBulkEntry {H : Type} : Lit × DataW H → Nat
  | (.string bytes, d) => bytes.length + uptoBulk d + 1
  | (_, d) => uptoBulk d + 1
 end
def uptoSmall : (H : Type) → List (DataW H) → Bool := fun _ ds => decide (uptoBulkAll ds ≤ 1048576)
def OpenSpec.upto (s : _root_.Go.ChangeSpec) : _root_.Go.OpenSpec := { _root_.Go.OpenSpec.ofChange s with cond := some uptoSmall }

/-- 'laws.FnExactFormatNumbers', WHERE WHAT IT READS IS OF BULK AT MOST 1048576: true; the input reads as it did. -/
def fnExactFormatNumbersUptoRow : OpenClaim := { program := "ythdoldaaodmeeaadoor", sum := "6f23392871941e195178971978a94dd86cf1f0fe4d74d80c60d26c1790c7c5b5", func := "loop.example/g03009/laws.FnExactFormatNumbers", spec := "fnExactFormatNumbers", inPlace := ["internal/abi.NoEscape", "internal/bytealg.MakeNoZero"], named := ["internal/strconv.uint64pow10", "math/bits.deBruijn32tab", "math/bits.deBruijn64tab"], apart := false, laid := [("math/bits.deBruijn32tab", laid_math_bits_deBruijn32tab), ("math/bits.deBruijn64tab", laid_math_bits_deBruijn64tab), ("internal/strconv.uint64pow10", laid_internal_strconv_uint64pow10)], narrowed := true }
def FnExactFormatNumbersUptoSaid : Prop := fnExactFormatNumbersUptoRow.holds Tryd.pinned (OpenSpec.upto fnExactFormatNumbersSpec)

/-- 'laws.FnExactSetsText', WHERE WHAT IT READS IS OF BULK AT MOST 1048576: true; the input reads as it did. -/
def fnExactSetsTextUptoRow : OpenClaim := { program := "ythdoldaaodmeeaadoor", sum := "6f23392871941e195178971978a94dd86cf1f0fe4d74d80c60d26c1790c7c5b5", func := "loop.example/g03009/laws.FnExactSetsText", spec := "fnExactSetsText", inPlace := ["internal/abi.NoEscape", "internal/bytealg.MakeNoZero"], named := ["internal/strconv.uint64pow10", "math/bits.deBruijn32tab", "math/bits.deBruijn64tab"], apart := false, laid := [("math/bits.deBruijn32tab", laid_math_bits_deBruijn32tab), ("math/bits.deBruijn64tab", laid_math_bits_deBruijn64tab), ("internal/strconv.uint64pow10", laid_internal_strconv_uint64pow10)], narrowed := true }
def FnExactSetsTextUptoSaid : Prop := fnExactSetsTextUptoRow.holds Tryd.pinned (OpenSpec.upto fnExactSetsTextSpec)

/-- 'laws.FnExactGraphText', WHERE WHAT IT READS IS OF BULK AT MOST 1048576: true; the input reads as it did. -/
def fnExactGraphTextUptoRow : OpenClaim := { program := "ythdoldaaodmeeaadoor", sum := "6f23392871941e195178971978a94dd86cf1f0fe4d74d80c60d26c1790c7c5b5", func := "loop.example/g03009/laws.FnExactGraphText", spec := "fnExactGraphText", named := ["internal/strconv.uint64pow10", "math/bits.deBruijn32tab", "math/bits.deBruijn64tab"], apart := false, laid := [("math/bits.deBruijn32tab", laid_math_bits_deBruijn32tab), ("math/bits.deBruijn64tab", laid_math_bits_deBruijn64tab), ("internal/strconv.uint64pow10", laid_internal_strconv_uint64pow10)], narrowed := true }
def FnExactGraphTextUptoSaid : Prop := fnExactGraphTextUptoRow.holds Tryd.pinned (OpenSpec.upto fnExactGraphTextSpec)

/-- 'laws.FnExactFormatRound', WHERE WHAT IT READS IS OF BULK AT MOST 1048576: true; the input reads as it did. -/
def fnExactFormatRoundUptoRow : OpenClaim := { program := "ythdoldaaodmeeaadoor", sum := "6f23392871941e195178971978a94dd86cf1f0fe4d74d80c60d26c1790c7c5b5", func := "loop.example/g03009/laws.FnExactFormatRound", spec := "fnExactFormatRound", inPlace := ["internal/abi.NoEscape", "internal/bytealg.MakeNoZero"], named := ["internal/strconv.uint64pow10", "math/bits.deBruijn32tab", "math/bits.deBruijn64tab"], apart := false, laid := [("math/bits.deBruijn32tab", laid_math_bits_deBruijn32tab), ("math/bits.deBruijn64tab", laid_math_bits_deBruijn64tab), ("internal/strconv.uint64pow10", laid_internal_strconv_uint64pow10)], narrowed := true }
def FnExactFormatRoundUptoSaid : Prop := fnExactFormatRoundUptoRow.holds Tryd.pinned (OpenSpec.upto fnExactFormatRoundSpec)

/-- 'laws.FnExactFormatPoints', WHERE WHAT IT READS IS OF BULK AT MOST 1048576: true; the input reads as it did. -/
def fnExactFormatPointsUptoRow : OpenClaim := { program := "ythdoldaaodmeeaadoor", sum := "6f23392871941e195178971978a94dd86cf1f0fe4d74d80c60d26c1790c7c5b5", func := "loop.example/g03009/laws.FnExactFormatPoints", spec := "fnExactFormatPoints", inPlace := ["internal/abi.NoEscape", "internal/bytealg.MakeNoZero"], named := ["internal/strconv.uint64pow10", "math/bits.deBruijn32tab", "math/bits.deBruijn64tab"], apart := false, laid := [("math/bits.deBruijn32tab", laid_math_bits_deBruijn32tab), ("math/bits.deBruijn64tab", laid_math_bits_deBruijn64tab), ("internal/strconv.uint64pow10", laid_internal_strconv_uint64pow10)], narrowed := true }
def FnExactFormatPointsUptoSaid : Prop := fnExactFormatPointsUptoRow.holds Tryd.pinned (OpenSpec.upto fnExactFormatPointsSpec)

/-- 'laws.FnExactFormatTeams', WHERE WHAT IT READS IS OF BULK AT MOST 1048576: true; the input reads as it did. -/
def fnExactFormatTeamsUptoRow : OpenClaim := { program := "ythdoldaaodmeeaadoor", sum := "6f23392871941e195178971978a94dd86cf1f0fe4d74d80c60d26c1790c7c5b5", func := "loop.example/g03009/laws.FnExactFormatTeams", spec := "fnExactFormatTeams", inPlace := ["internal/abi.NoEscape", "internal/bytealg.MakeNoZero"], named := ["internal/strconv.uint64pow10", "math/bits.deBruijn32tab", "math/bits.deBruijn64tab"], apart := false, laid := [("math/bits.deBruijn32tab", laid_math_bits_deBruijn32tab), ("math/bits.deBruijn64tab", laid_math_bits_deBruijn64tab), ("internal/strconv.uint64pow10", laid_internal_strconv_uint64pow10)], narrowed := true }
def FnExactFormatTeamsUptoSaid : Prop := fnExactFormatTeamsUptoRow.holds Tryd.pinned (OpenSpec.upto fnExactFormatTeamsSpec)

/-- 'laws.FnExactParseGraph', WHERE WHAT IT READS IS OF BULK AT MOST 1048576: true; the input reads as it did. -/
def fnExactParseGraphUptoRow : OpenClaim := { program := "ythdoldaaodmeeaadoor", sum := "6f23392871941e195178971978a94dd86cf1f0fe4d74d80c60d26c1790c7c5b5", func := "loop.example/g03009/laws.FnExactParseGraph", spec := "fnExactParseGraph", inPlace := ["internal/bytealg.CountString", "internal/bytealg.IndexByteString", "internal/bytealg.IndexString"], named := ["unicode/utf8.first", "unicode/utf8.acceptRanges", "internal/bytealg.MaxLen", "internal/strconv.uint64pow10", "math/bits.deBruijn32tab", "math/bits.deBruijn64tab"], apart := false, laid := [("math/bits.deBruijn32tab", laid_math_bits_deBruijn32tab), ("math/bits.deBruijn64tab", laid_math_bits_deBruijn64tab), ("internal/strconv.uint64pow10", laid_internal_strconv_uint64pow10), ("unicode/utf8.acceptRanges", laid_unicode_utf8_acceptRanges), ("unicode/utf8.first", laid_unicode_utf8_first)], narrowed := true }
def FnExactParseGraphUptoSaid : Prop := fnExactParseGraphUptoRow.holds Tryd.pinned (OpenSpec.upto fnExactParseGraphSpec)

/-- 'laws.FnExactFormatClub', WHERE WHAT IT READS IS OF BULK AT MOST 1048576: true; the input reads as it did. -/
def fnExactFormatClubUptoRow : OpenClaim := { program := "ythdoldaaodmeeaadoor", sum := "6f23392871941e195178971978a94dd86cf1f0fe4d74d80c60d26c1790c7c5b5", func := "loop.example/g03009/laws.FnExactFormatClub", spec := "fnExactFormatClub", inPlace := ["internal/abi.NoEscape", "internal/bytealg.MakeNoZero"], named := ["internal/strconv.uint64pow10", "math/bits.deBruijn32tab", "math/bits.deBruijn64tab"], apart := false, laid := [("math/bits.deBruijn32tab", laid_math_bits_deBruijn32tab), ("math/bits.deBruijn64tab", laid_math_bits_deBruijn64tab), ("internal/strconv.uint64pow10", laid_internal_strconv_uint64pow10)], narrowed := true }
def FnExactFormatClubUptoSaid : Prop := fnExactFormatClubUptoRow.holds Tryd.pinned (OpenSpec.upto fnExactFormatClubSpec)

end Rows
end Go.Proofs.YthdoldaaodmeeaaDoor
