/-
  No cell of these rows narrows 'for every input' (looked for: loops, veiled, ifaces, maps, wideKeys, modest, calm, conditions, laid).
  DERIVED. THE GIVEN ROWS OF THIS SEAT. 5 by the template 'for every input the law returns true; each argument reads behind the call as it read before'; 0 by the template 'total and deterministic' (their statements: YtclodbdakphhfaaTotals.lean).
  GIVEN WITH THE SEED: the statements are not yours to turn. If you find one false, say at which input.
  Laid BY PROGRAM, IN A SANDBOX (cutbox-rows.mjs): the forced cells as the released guide's own fill.sh prints them over the translation 24b2268b4eb6efd0… (all of the seat's roots in one cut). By AI agents, Wed Nov 11 2026. No macro, syntax, notation, axiom, sorry.
-/
import Derived.Test.YtclodbdakphhfaaChecked
import GoSem.Claim
import GoSem.ClaimJoined
import GoSem.ClaimMapViews
import Derived.JoinedTies
import Derived.KernelRfl
namespace Go.Proofs.Ytclodbdakphhfaa
/- THE CELL 'sum', in the pinned program and in every row, IS THE sha256 OF THE DUMP (.gsa) THAT YtclodbdakphhfaaProg.lean LOADS. Nothing in Lean hashes anything: it is a label: what it is worth is what the hold of that sum in a sandbox is worth. -/
noncomputable def Try.pinned : Pinned := { name := "ytclodbdakphhfaa", sum := "24b2268b4eb6efd0a895a42094ab07670a9fc5ad4410c8822116dec6a05331f3", checked := Try.checked }
namespace Rows
def none {H : Type} : Left H := { results := [], args := [] }

/-- 'laws.FnExactEventName': WHATEVER THE INPUT: true; the input reads as it did. -/
def fnExactEventNameSpec : ChangeSpec := { name := "fnExactEventName", fn := fun _ => fun
  | [d] => { results := [.lit (.bool true)], args := [d] }
  | _ => none }
def fnExactEventNameRow : OpenClaim := { program := "ytclodbdakphhfaa", sum := "24b2268b4eb6efd0a895a42094ab07670a9fc5ad4410c8822116dec6a05331f3", func := "loop.example/g03009/laws.FnExactEventName", spec := "fnExactEventName", apart := false }
def FnExactEventNameSaid : Prop := fnExactEventNameRow.holds Try.pinned (OpenSpec.ofChange fnExactEventNameSpec)

/-- ITS FALSE NEIGHBOUR: 'it returns false'. Refute it at one input. -/
def fnExactEventNameWrong : ChangeSpec := { name := "fnExactEventName", fn := fun _ => fun
  | [d] => { results := [.lit (.bool false)], args := [d] }
  | _ => none }
def FnExactEventNameWrongFalsely : Prop := fnExactEventNameRow.holds Try.pinned (OpenSpec.ofChange fnExactEventNameWrong)

/-- 'laws.FnExactParseFormula': WHATEVER THE INPUT: true; the input reads as it did. -/
def fnExactParseFormulaSpec : ChangeSpec := { name := "fnExactParseFormula", fn := fun _ => fun
  | [d] => { results := [.lit (.bool true)], args := [d] }
  | _ => none }
def fnExactParseFormulaRow : OpenClaim := { program := "ytclodbdakphhfaa", sum := "24b2268b4eb6efd0a895a42094ab07670a9fc5ad4410c8822116dec6a05331f3", func := "loop.example/g03009/laws.FnExactParseFormula", spec := "fnExactParseFormula", inPlace := ["internal/bytealg.IndexByteString"], recurses := true, apart := false }
def FnExactParseFormulaSaid : Prop := fnExactParseFormulaRow.holds Try.pinned (OpenSpec.ofChange fnExactParseFormulaSpec)

/-- ITS FALSE NEIGHBOUR: 'it returns false'. Refute it at one input. -/
def fnExactParseFormulaWrong : ChangeSpec := { name := "fnExactParseFormula", fn := fun _ => fun
  | [d] => { results := [.lit (.bool false)], args := [d] }
  | _ => none }
def FnExactParseFormulaWrongFalsely : Prop := fnExactParseFormulaRow.holds Try.pinned (OpenSpec.ofChange fnExactParseFormulaWrong)

/-- 'laws.FnExactJudgesIn': WHATEVER THE INPUT: true; the input reads as it did. -/
def fnExactJudgesInSpec : ChangeSpec := { name := "fnExactJudgesIn", fn := fun _ => fun
  | [d] => { results := [.lit (.bool true)], args := [d] }
  | _ => none }
def fnExactJudgesInRow : OpenClaim := { program := "ytclodbdakphhfaa", sum := "24b2268b4eb6efd0a895a42094ab07670a9fc5ad4410c8822116dec6a05331f3", func := "loop.example/g03009/laws.FnExactJudgesIn", spec := "fnExactJudgesIn", recurses := true, apart := false }
def FnExactJudgesInSaid : Prop := fnExactJudgesInRow.holds Try.pinned (OpenSpec.ofChange fnExactJudgesInSpec)

/-- ITS FALSE NEIGHBOUR: 'it returns false'. Refute it at one input. -/
def fnExactJudgesInWrong : ChangeSpec := { name := "fnExactJudgesIn", fn := fun _ => fun
  | [d] => { results := [.lit (.bool false)], args := [d] }
  | _ => none }
def FnExactJudgesInWrongFalsely : Prop := fnExactJudgesInRow.holds Try.pinned (OpenSpec.ofChange fnExactJudgesInWrong)

/-- 'laws.FnExactTeamsIn': WHATEVER THE INPUT: true; the input reads as it did. -/
def fnExactTeamsInSpec : ChangeSpec := { name := "fnExactTeamsIn", fn := fun _ => fun
  | [d] => { results := [.lit (.bool true)], args := [d] }
  | _ => none }
def fnExactTeamsInRow : OpenClaim := { program := "ytclodbdakphhfaa", sum := "24b2268b4eb6efd0a895a42094ab07670a9fc5ad4410c8822116dec6a05331f3", func := "loop.example/g03009/laws.FnExactTeamsIn", spec := "fnExactTeamsIn", recurses := true, apart := false }
def FnExactTeamsInSaid : Prop := fnExactTeamsInRow.holds Try.pinned (OpenSpec.ofChange fnExactTeamsInSpec)

/-- ITS FALSE NEIGHBOUR: 'it returns false'. Refute it at one input. -/
def fnExactTeamsInWrong : ChangeSpec := { name := "fnExactTeamsIn", fn := fun _ => fun
  | [d] => { results := [.lit (.bool false)], args := [d] }
  | _ => none }
def FnExactTeamsInWrongFalsely : Prop := fnExactTeamsInRow.holds Try.pinned (OpenSpec.ofChange fnExactTeamsInWrong)

/-- 'laws.FnExactOpenShare': WHATEVER THE INPUT: true; the input reads as it did. -/
def fnExactOpenShareSpec : ChangeSpec := { name := "fnExactOpenShare", fn := fun _ => fun
  | [d] => { results := [.lit (.bool true)], args := [d] }
  | _ => none }
def fnExactOpenShareRow : OpenClaim := { program := "ytclodbdakphhfaa", sum := "24b2268b4eb6efd0a895a42094ab07670a9fc5ad4410c8822116dec6a05331f3", func := "loop.example/g03009/laws.FnExactOpenShare", spec := "fnExactOpenShare", recurses := true, apart := false }
def FnExactOpenShareSaid : Prop := fnExactOpenShareRow.holds Try.pinned (OpenSpec.ofChange fnExactOpenShareSpec)

/-- ITS FALSE NEIGHBOUR: 'it returns false'. Refute it at one input. -/
def fnExactOpenShareWrong : ChangeSpec := { name := "fnExactOpenShare", fn := fun _ => fun
  | [d] => { results := [.lit (.bool false)], args := [d] }
  | _ => none }
def FnExactOpenShareWrongFalsely : Prop := fnExactOpenShareRow.holds Try.pinned (OpenSpec.ofChange fnExactOpenShareWrong)

/- THE SECOND FORM. 'bulk': how many values and letters a reading holds, each counted each time it is reached (what is shared counts as often as it is met; a slice's spare places count too). A statement '..UptoSaid' is the law's where the arguments, and the package variables that the reading takes, are together of bulk at most 1048576: NARROWER than '..Said'. Prove '..Said' where nothing that the law and all that it calls make is longer than what came in: it says more and counts as full. Else prove '..UptoSaid'. A law counts once. -/
mutual
def uptoBulk {H : Type} : DataW H → Nat
  | .lit (.string bytes) => bytes.length + 1
  | .lit _ => 1
  | .nil => 1
  | .ptr d => uptoBulk d + 1
  | .slice elems spare => uptoBulkAll elems + uptoBulkAll spare + 1
  | .agg parts => uptoBulkAll parts + 1
  | .iface _ d => uptoBulk d + 1
  | .map entries => uptoBulkEntries entries + 1
  | .held _ => 1
def uptoBulkAll {H : Type} : List (DataW H) → Nat
  | [] => 0
  | d :: r => uptoBulk d + uptoBulkAll r
def uptoBulkEntries {H : Type} : List (Lit × DataW H) → Nat
  | [] => 0
  | x :: r => uptoBulkEntry x + uptoBulkEntries r
def uptoBulkEntry {H : Type} : Lit × DataW H → Nat
  | (.string bytes, d) => bytes.length + uptoBulk d + 1
  | (_, d) => uptoBulk d + 1
 end
def uptoSmall : (H : Type) → List (DataW H) → Bool := fun _ ds => decide (uptoBulkAll ds ≤ 1048576)
def OpenSpec.upto (s : _root_.Go.ChangeSpec) : _root_.Go.OpenSpec := { _root_.Go.OpenSpec.ofChange s with cond := some uptoSmall }

/-- 'laws.FnExactEventName', WHERE WHAT IT READS IS OF BULK AT MOST 1048576: true; the input reads as it did. -/
def fnExactEventNameUptoRow : OpenClaim := { program := "ytclodbdakphhfaa", sum := "24b2268b4eb6efd0a895a42094ab07670a9fc5ad4410c8822116dec6a05331f3", func := "loop.example/g03009/laws.FnExactEventName", spec := "fnExactEventName", apart := false, narrowed := true }
def FnExactEventNameUptoSaid : Prop := fnExactEventNameUptoRow.holds Try.pinned (OpenSpec.upto fnExactEventNameSpec)

/-- 'laws.FnExactParseFormula', WHERE WHAT IT READS IS OF BULK AT MOST 1048576: true; the input reads as it did. -/
def fnExactParseFormulaUptoRow : OpenClaim := { program := "ytclodbdakphhfaa", sum := "24b2268b4eb6efd0a895a42094ab07670a9fc5ad4410c8822116dec6a05331f3", func := "loop.example/g03009/laws.FnExactParseFormula", spec := "fnExactParseFormula", inPlace := ["internal/bytealg.IndexByteString"], recurses := true, apart := false, narrowed := true }
def FnExactParseFormulaUptoSaid : Prop := fnExactParseFormulaUptoRow.holds Try.pinned (OpenSpec.upto fnExactParseFormulaSpec)

/-- 'laws.FnExactJudgesIn', WHERE WHAT IT READS IS OF BULK AT MOST 1048576: true; the input reads as it did. -/
def fnExactJudgesInUptoRow : OpenClaim := { program := "ytclodbdakphhfaa", sum := "24b2268b4eb6efd0a895a42094ab07670a9fc5ad4410c8822116dec6a05331f3", func := "loop.example/g03009/laws.FnExactJudgesIn", spec := "fnExactJudgesIn", recurses := true, apart := false, narrowed := true }
def FnExactJudgesInUptoSaid : Prop := fnExactJudgesInUptoRow.holds Try.pinned (OpenSpec.upto fnExactJudgesInSpec)

/-- 'laws.FnExactTeamsIn', WHERE WHAT IT READS IS OF BULK AT MOST 1048576: true; the input reads as it did. -/
def fnExactTeamsInUptoRow : OpenClaim := { program := "ytclodbdakphhfaa", sum := "24b2268b4eb6efd0a895a42094ab07670a9fc5ad4410c8822116dec6a05331f3", func := "loop.example/g03009/laws.FnExactTeamsIn", spec := "fnExactTeamsIn", recurses := true, apart := false, narrowed := true }
def FnExactTeamsInUptoSaid : Prop := fnExactTeamsInUptoRow.holds Try.pinned (OpenSpec.upto fnExactTeamsInSpec)

/-- 'laws.FnExactOpenShare', WHERE WHAT IT READS IS OF BULK AT MOST 1048576: true; the input reads as it did. -/
def fnExactOpenShareUptoRow : OpenClaim := { program := "ytclodbdakphhfaa", sum := "24b2268b4eb6efd0a895a42094ab07670a9fc5ad4410c8822116dec6a05331f3", func := "loop.example/g03009/laws.FnExactOpenShare", spec := "fnExactOpenShare", recurses := true, apart := false, narrowed := true }
def FnExactOpenShareUptoSaid : Prop := fnExactOpenShareUptoRow.holds Try.pinned (OpenSpec.upto fnExactOpenShareSpec)

end Rows
end Go.Proofs.Ytclodbdakphhfaa
